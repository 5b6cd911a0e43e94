import Derived.Test.YtiekaipompepdaaBkB
namespace Go.Proofs.Ytiekaipompepdaa
open Go Go.Eng Go.Bk Go.Proofs
set_option linter.unusedVariables false
set_option maxHeartbeats 2000000 in
theorem clone_vc (xs : List UInt8) (hx : xs.length ≤ (1000000 : Nat)) (k : AV → List (Option Blk) → List Blk → Prop) (hk : (xs = [] → k AV.nilsl [] []) ∧ k (AV.row (0 : Nat) (0 : Nat) (0 : Nat) xs.length) [] [Blk.row (0 : Nat) xs]) :
  ∀ (b_1 : Bool),
  ((b_1 = true) →
   (xs = [])) →
  br (b_1)
   ((k AV.nilsl [] []))
   ((((0 : Nat) + xs.length) * (1 : Nat) ≤ (140737488355328 : Nat)) ∧
    ∀ (z3 : List UInt8),
    (z3 = List.take (0 : Nat) [] ++ xs) →
    (k (AV.row (0 : Nat) (0 : Nat) (0 : Nat) ((0 : Nat) + xs.length)) [] [Blk.row (0 : Nat) z3])) := by
  intro b_1
  intro h1 -- b_1 = true → xs = []
  refine br_intro (fun c2 => ?_) (fun c2 => ?_) -- b_1
  · -- yes
    -- k AV.nilsl [] []
    exact hk.1 (h1 c2)
  · -- no
    refine ⟨by first | omega | (dsimp only; omega), ?_⟩ -- ((0 : Nat) + xs.length) * (1 : Nat) ≤ (140737488355328 : Nat)
    intro z3
    intro qz3 -- z3 = List.take (0 : Nat) [] ++ xs
    -- k (AV.row (0 : Nat) (0 : Nat) (0 : Nat) ((0 : Nat) + xs.length)) [] [Blk.row (0 : Nat) z3]
    rw [qz3, Nat.zero_add]; exact hk.2

theorem clone_ok : Holds Try.prog 27 clone0S := by
  refine fn_sound (env := mkEnv T0) (tab_ok T0_ok) Try.func27 Try.call27 fun args k h => ?_
  match args, h with
  | [.sl 0 xs], h => exact ⟨by kernel_rfl, fun _ _ => none, fun _ _ => none, .cast (by kernel_rfl) (clone_vc xs h.1 k h.2)⟩
theorem cloneR_ok : Holds Try.prog 27 cloneS := clone_ok.nl 0 rfl rfl rfl fun args k h => by
  unfold cloneS at h
  dsimp only at h
  split at h
  · exact ⟨h.1, fun e => by subst e; exact h.2, h.2⟩
  · exact h.elim
set_option maxHeartbeats 2000000 in
theorem equal_vc (a : List UInt8) (b : List UInt8) (k : AV → List (Option Blk) → List Blk → Prop) (hk : ∀ (r : Bool), (r = true ↔ a = b) → k (AV.bool r) [] []) :
  (k (AV.bool ({ data := a.toArray : ByteArray }.data.toList == { data := b.toArray : ByteArray }.data.toList)) [] []) := by
  -- k (AV.bool ({ data := a.toArray : ByteArray }.data.toList == { data := b.toArray : ByteArray }.data.toList)) [] []
  exact hk _ ⟨fun h => by simpa using h, fun h => by simp [h]⟩

theorem equal_ok : Holds Try.prog 29 equalS := by
  refine fn_sound (env := mkEnv T0) (tab_ok T0_ok) Try.func29 Try.call29 fun args k h => ?_
  match args, h with
  | [.sl 0 a, .sl 0 b], h => exact ⟨by kernel_rfl, fun _ _ => none, fun _ _ => none, .cast (by kernel_rfl) (equal_vc a b k h)⟩
set_option maxHeartbeats 2000000 in
theorem lsame_vc (a : List UInt8) (b : List UInt8) (k : AV → List (Option Blk) → List Blk → Prop) (hk : ∀ (r : Bool), (r = true ↔ a = b) → k (AV.bool r) [] []) :
  (k (AV.bool ({ data := a.toArray : ByteArray }.data.toList == { data := b.toArray : ByteArray }.data.toList)) [] []) := by
  -- k (AV.bool ({ data := a.toArray : ByteArray }.data.toList == { data := b.toArray : ByteArray }.data.toList)) [] []
  exact hk _ ⟨fun h => by simpa using h, fun h => by simp [h]⟩

theorem lsame_ok : Holds Try.prog 23 sameS := by
  refine fn_sound (env := mkEnv T0) (tab_ok T0_ok) Try.func23 Try.call23 fun args k h => ?_
  match args, h with
  | [.agg [.sl 0 a], .agg [.sl 0 b]], h => exact ⟨by kernel_rfl, fun _ _ => none, fun _ _ => none, .cast (by kernel_rfl) (lsame_vc a b k h)⟩
set_option maxHeartbeats 2000000 in
theorem check_vc (d : List UInt8) (k : AV → List (Option Blk) → List Blk → Prop) (hk : ∀ (e : Int), e = chkE d → k (AV.int IntKind.i64 e) [] []) :
  ∀ (n1 : Int),
  (n1 = (↑d.length : Int)) →
  ((-9223372036854775808 : Int) ≤ n1 ∧ n1 ≤ (9223372036854775807 : Int)) →
  (
   ((bif decide (n1 < (64 : Int)) then true else decide (n1 > (4096 : Int))) = false) →
   ((64 : Int) ≠ (0 : Int))) ∧
  ∀ (n4 : Int),
  (n4 = n1.tmod (64 : Int)) →
  br (bif bif decide (n1 < (64 : Int)) then true else decide (n1 > (4096 : Int)) then true else n4 != (0 : Int))
   ((k (AV.int IntKind.i64 (180 : Int)) [] []))
   ((k (AV.int IntKind.i64 (0 : Int)) [] [])) := by
  intro n1
  intro q1 -- n1 = (↑d.length : Int)
  intro ⟨l1, u1⟩ -- (-9223372036854775808 : Int) ≤ n1 ∧ n1 ≤ (9223372036854775807 : Int)
  refine ⟨?_, ?_⟩
  · -- left
    intro h1 -- (bif decide (n1 < (64 : Int)) then true else decide (n1 > (4096 : Int))) = false
    simp at h1 -- (64 : Int) ≤ n1 ∧ n1 ≤ (4096 : Int)
    exact by omega -- (64 : Int) ≠ (0 : Int)
  intro n4
  intro q4 -- n4 = n1.tmod (64 : Int)
  rw [Int.tmod_eq_emod_of_nonneg (by omega)] at q4
  refine br_intro (fun c2 => ?_) (fun c2 => ?_) -- bif bif decide (n1 < (64 : Int)) then true else decide (n1 > (4096 : Int)) then true else n4 != (0 : Int)
  · -- yes
    simp at c2 -- (n1 < (64 : Int) ∨ (4096 : Int) < n1) ∨ ¬n4 = (0 : Int)
    -- k (AV.int IntKind.i64 (180 : Int)) [] []
    refine hk 180 ?_
    unfold chkE
    rw [if_neg]
    unfold dOk
    omega
  · -- no
    simp at c2 -- ((64 : Int) ≤ n1 ∧ n1 ≤ (4096 : Int)) ∧ n4 = (0 : Int)
    -- k (AV.int IntKind.i64 (0 : Int)) [] []
    refine hk 0 ?_
    unfold chkE
    rw [if_pos]
    exact ⟨by omega, by omega, by omega⟩

theorem check_ok : Holds Try.prog 16 checkS := by
  refine fn_sound (env := mkEnv T0) (tab_ok T0_ok) Try.func16 Try.call16 fun args k h => ?_
  match args, h with
  | [.agg [.sl 0 d]], h => exact ⟨by kernel_rfl, fun _ _ => none, fun _ _ => none, .cast (by kernel_rfl) (check_vc d k h)⟩
set_option maxHeartbeats 2000000 in
theorem rcheck_vc (d : List UInt8) (k : AV → List (Option Blk) → List Blk → Prop) (hk : ∀ (e : Int), e = chkE d → k (AV.int IntKind.i64 e) [] []) :
  ∀ (n1 : Int),
  (n1 = (↑d.length : Int)) →
  ((-9223372036854775808 : Int) ≤ n1 ∧ n1 ≤ (9223372036854775807 : Int)) →
  ∀ (n4 : Int),
  (n4 = (↑d.length : Int)) →
  ∀ (n6 : Int),
  (n6 = (↑d.length : Int)) →
  (
   ((bif decide (n1 < (64 : Int)) then true else decide (n4 > (4096 : Int))) = false) →
   ((64 : Int) ≠ (0 : Int))) ∧
  ∀ (n8 : Int),
  (n8 = n6.tmod (64 : Int)) →
  br (bif bif decide (n1 < (64 : Int)) then true else decide (n4 > (4096 : Int)) then true else n8 != (0 : Int))
   ((k (AV.int IntKind.i64 (180 : Int)) [] []))
   ((k (AV.int IntKind.i64 (0 : Int)) [] [])) := by
  intro n1
  intro q1 -- n1 = (↑d.length : Int)
  intro ⟨l1, u1⟩ -- (-9223372036854775808 : Int) ≤ n1 ∧ n1 ≤ (9223372036854775807 : Int)
  intro n4
  intro q4 -- n4 = (↑d.length : Int)
  intro n6
  intro q6 -- n6 = (↑d.length : Int)
  refine ⟨?_, ?_⟩
  · -- left
    intro q6 -- (bif decide (n1 < (64 : Int)) then true else decide (n4 > (4096 : Int))) = false
    simp at q6 -- (64 : Int) ≤ n1 ∧ n4 ≤ (4096 : Int)
    exact by omega -- (64 : Int) ≠ (0 : Int)
  intro n8
  intro q8 -- n8 = n6.tmod (64 : Int)
  rw [Int.tmod_eq_emod_of_nonneg (by omega)] at q8
  refine br_intro (fun c1 => ?_) (fun c1 => ?_) -- bif bif decide (n1 < (64 : Int)) then true else decide (n4 > (4096 : Int)) then true else n8 != (0 : Int)
  · -- yes
    simp at c1 -- (n1 < (64 : Int) ∨ (4096 : Int) < n4) ∨ ¬n8 = (0 : Int)
    -- k (AV.int IntKind.i64 (180 : Int)) [] []
    refine hk 180 ?_
    unfold chkE
    rw [if_neg]
    unfold dOk
    omega
  · -- no
    simp at c1 -- ((64 : Int) ≤ n1 ∧ n4 ≤ (4096 : Int)) ∧ n8 = (0 : Int)
    -- k (AV.int IntKind.i64 (0 : Int)) [] []
    refine hk 0 ?_
    unfold chkE
    rw [if_pos]
    exact ⟨by omega, by omega, by omega⟩

theorem rcheck_ok : Holds Try.prog 22 checkS := by
  refine fn_sound (env := mkEnv T0) (tab_ok T0_ok) Try.func22 Try.call22 fun args k h => ?_
  match args, h with
  | [.agg [.sl 0 d]], h => exact ⟨by kernel_rfl, fun _ _ => none, fun _ _ => none, .cast (by kernel_rfl) (rcheck_vc d k h)⟩
set_option maxHeartbeats 2000000 in
theorem rmany_vc (d : List UInt8) (k : AV → List (Option Blk) → List Blk → Prop) (hk : ∀ (m : Int), m = (↑(d.length / (64 : Nat)) : Int) → k (AV.int IntKind.i64 m) [] []) :
  ∀ (n1 : Int),
  (n1 = (↑d.length : Int)) →
  ((-9223372036854775808 : Int) ≤ n1 ∧ n1 ≤ (9223372036854775807 : Int)) →
  ((64 : Int) ≠ (0 : Int)) ∧
  ∀ (n4 : Int),
  (n4 = IntKind.i64.wrap (n1.tdiv (64 : Int))) →
  ((-9223372036854775808 : Int) ≤ n4 ∧ n4 ≤ (9223372036854775807 : Int)) →
  (k (AV.int IntKind.i64 n4) [] []) := by
  intro n1
  intro q1 -- n1 = (↑d.length : Int)
  intro ⟨l1, u1⟩ -- (-9223372036854775808 : Int) ≤ n1 ∧ n1 ≤ (9223372036854775807 : Int)
  refine ⟨by first | omega | (dsimp only; omega), ?_⟩ -- (64 : Int) ≠ (0 : Int)
  intro n4
  intro q4 -- n4 = IntKind.i64.wrap (n1.tdiv (64 : Int))
  rw [Int.tdiv_eq_ediv_of_nonneg (by omega)] at q4
  rw [IntKind.wrap_i64] at q4
  intro ⟨l4, u4⟩ -- (-9223372036854775808 : Int) ≤ n4 ∧ n4 ≤ (9223372036854775807 : Int)
  -- k (AV.int IntKind.i64 n4) [] []
  exact hk _ (by omega)

theorem rmany_ok : Holds Try.prog 24 rmanyS := by
  refine fn_sound (env := mkEnv T0) (tab_ok T0_ok) Try.func24 Try.call24 fun args k h => ?_
  match args, h with
  | [.agg [.sl 0 d]], h => exact ⟨by kernel_rfl, fun _ _ => none, fun _ _ => none, .cast (by kernel_rfl) (rmany_vc d k h)⟩
set_option maxHeartbeats 2000000 in
theorem atA_vc (d : List UInt8) (n : Int) (hn : (0 : Int) ≤ n ∧ (64 : Int) * n + (64 : Int) ≤ (↑d.length : Int) ∧ d.length ≤ (1000000 : Nat)) (k : AV → List (Option Blk) → List Blk → Prop) (hk : k (AV.sl (0 : Nat) (blk d n)) [] []) :
  ∀ (n1 : Int),
  (n1 = IntKind.i64.wrap (n * (64 : Int))) →
  ((-9223372036854775808 : Int) ≤ n1 ∧ n1 ≤ (9223372036854775807 : Int)) →
  ((0 : Int) ≤ n1) ∧
  (n1 ≤ (↑d.length : Int)) ∧
  ((0 : Int) ≤ (64 : Int)) ∧
  ((64 : Int) ≤ (↑(List.drop n1.toNat d).length : Int)) ∧
  (k (AV.sl (0 : Nat) (List.take (Int.toNat (64 : Int)) (List.drop n1.toNat d))) [] []) := by
  intro n1
  intro q1 -- n1 = IntKind.i64.wrap (n * (64 : Int))
  rw [IntKind.wrap_i64] at q1
  intro ⟨l1, u1⟩ -- (-9223372036854775808 : Int) ≤ n1 ∧ n1 ≤ (9223372036854775807 : Int)
  refine ⟨by first | omega | (dsimp only; omega), ?_⟩ -- (0 : Int) ≤ n1
  refine ⟨by first | omega | (dsimp only; omega), ?_⟩ -- n1 ≤ (↑d.length : Int)
  refine ⟨by first | omega | (dsimp only; omega), ?_⟩ -- (0 : Int) ≤ (64 : Int)
  have h1 : (64 : Int) ≤ (↑(List.drop n1.toNat d).length : Int) := by
    rw [List.length_drop]; omega
  refine ⟨h1, ?_⟩
  -- k (AV.sl (0 : Nat) (List.take (Int.toNat (64 : Int)) (List.drop n1.toNat d))) [] []
  have e : List.take (Int.toNat 64) (List.drop n1.toNat d) = blk d n := by unfold blk; rw [show n1.toNat = 64 * n.toNat by omega]; rfl
  have := hk
  rw [← e] at this
  exact this

theorem atA_ok : Holds Try.prog 28 atS := by
  refine fn_sound (env := mkEnv T0) (tab_ok T0_ok) Try.func28 Try.call28 fun args k h => ?_
  match args, h with
  | [.agg [.sl 0 d], .int .i64 n], h => exact ⟨by kernel_rfl, fun _ _ => none, fun _ _ => none, .cast (by kernel_rfl) (atA_vc d n h.1 k h.2)⟩
set_option maxHeartbeats 2000000 in
theorem atb_vc (q : Nat) (n : Int) (xs : List UInt8) (hn : q = xs.length ∧ (0 : Int) ≤ n ∧ (64 : Int) * n + (64 : Int) ≤ (↑xs.length : Int) ∧ xs.length ≤ (1000000 : Nat)) (k : AV → List (Option Blk) → List Blk → Prop) (hk : ∀ (o : Nat), o = (64 : Nat) * n.toNat → k (AV.row (0 : Nat) (0 : Nat) o (64 : Nat)) [some (Blk.row (0 : Nat) xs)] []) :
  ∀ (n1 : Int),
  (n1 = IntKind.i64.wrap (n * (64 : Int))) →
  ((-9223372036854775808 : Int) ≤ n1 ∧ n1 ≤ (9223372036854775807 : Int)) →
  ((0 : Int) ≤ n1) ∧
  (n1 ≤ (↑q : Int)) ∧
  ((0 : Int) ≤ (64 : Int)) ∧
  ((64 : Int) ≤ (↑(q - n1.toNat) : Int)) ∧
  (k (AV.row (0 : Nat) (0 : Nat) ((0 : Nat) + n1.toNat) (64 : Nat)) [some (Blk.row (0 : Nat) xs)] []) := by
  intro n1
  intro q1 -- n1 = IntKind.i64.wrap (n * (64 : Int))
  rw [IntKind.wrap_i64] at q1
  intro ⟨l1, u1⟩ -- (-9223372036854775808 : Int) ≤ n1 ∧ n1 ≤ (9223372036854775807 : Int)
  refine ⟨by first | omega | (dsimp only; omega), ?_⟩ -- (0 : Int) ≤ n1
  refine ⟨by first | omega | (dsimp only; omega), ?_⟩ -- n1 ≤ (↑q : Int)
  refine ⟨by first | omega | (dsimp only; omega), ?_⟩ -- (0 : Int) ≤ (64 : Int)
  refine ⟨by first | omega | (dsimp only; omega), ?_⟩ -- (64 : Int) ≤ (↑(q - n1.toNat) : Int)
  -- k (AV.row (0 : Nat) (0 : Nat) ((0 : Nat) + n1.toNat) (64 : Nat)) [some (Blk.row (0 : Nat) xs)] []
  exact hk _ (by omega)

theorem atb_ok : Holds Try.prog 28 atB := by
  refine fn_soundB (env := mkEnv T0) (tab_ok T0_ok) Try.func28 Try.call28 (fun args B k h => ?_) (by decide)
  unfold atB at h
  dsimp only at h
  split at h
  · rename_i q n xs
    exact ⟨by kernel_rfl, fun _ _ => none, fun _ _ => none, .cast (by kernel_rfl) (atb_vc q n xs h.1 k h.2)⟩
  · exact h.elim
set_option maxHeartbeats 2000000 in
theorem twin_vc (d : List UInt8) (hd : d.length ≤ (1000000 : Nat)) (k : AV → List (Option Blk) → List Blk → Prop) (hk : ∀ (ys : List UInt8) (n : Nat), ys = d → ys.length = n → k (AV.agg [AV.row (0 : Nat) (0 : Nat) (0 : Nat) n]) [] [Blk.row (0 : Nat) ys]) :
  (d.length * (1 : Nat) ≤ (140737488355328 : Nat)) ∧
  ∀ (z1 : List UInt8),
  (z1 = d) →
  (k (AV.agg [AV.row (0 : Nat) (0 : Nat) (0 : Nat) d.length]) [] [Blk.row (0 : Nat) z1]) := by
  refine ⟨by first | omega | (dsimp only; omega), ?_⟩ -- d.length * (1 : Nat) ≤ (140737488355328 : Nat)
  intro z1
  intro qz1 -- z1 = d
  -- k (AV.agg [AV.row (0 : Nat) (0 : Nat) (0 : Nat) d.length]) [] [Blk.row (0 : Nat) z1]
  exact hk z1 _ qz1 (by rw [qz1])

theorem twin_ok : Holds Try.prog 17 twinS := by
  refine fn_sound (env := mkEnv T0) (tab_ok T0_ok) Try.func17 Try.call17 fun args k h => ?_
  match args, h with
  | [.agg [.sl 0 d]], h => exact ⟨by kernel_rfl, fun _ _ => none, fun _ _ => none, .cast (by kernel_rfl) (twin_vc d h.1 k h.2)⟩
set_option maxHeartbeats 2000000 in
theorem rblock_vc (d : List UInt8) (n : Int) (hn : (0 : Int) ≤ n ∧ (64 : Int) * n + (64 : Int) ≤ (↑d.length : Int) ∧ d.length ≤ (1000000 : Nat)) (k : AV → List (Option Blk) → List Blk → Prop) (hk : ∀ (ys : List UInt8) (q : Nat), ys = blk d n → ys.length = q → k (AV.row (0 : Nat) (0 : Nat) (0 : Nat) q) [] [Blk.row (0 : Nat) ys]) :
  ∀ (n1 : Int),
  (n1 = IntKind.i64.wrap (n * (64 : Int))) →
  ((-9223372036854775808 : Int) ≤ n1 ∧ n1 ≤ (9223372036854775807 : Int)) →
  ∀ (n4 : Int),
  (n4 = IntKind.i64.wrap (n * (64 : Int))) →
  ((-9223372036854775808 : Int) ≤ n4 ∧ n4 ≤ (9223372036854775807 : Int)) →
  ∀ (n7 : Int),
  (n7 = IntKind.i64.wrap (n4 + (64 : Int))) →
  ((-9223372036854775808 : Int) ≤ n7 ∧ n7 ≤ (9223372036854775807 : Int)) →
  ((0 : Int) ≤ n1) ∧
  (n1 ≤ n7) ∧
  (n7 ≤ (↑d.length : Int)) ∧
  ((List.drop n1.toNat (List.take n7.toNat d)).length * (1 : Nat) ≤ (140737488355328 : Nat)) ∧
  ∀ (z10 : List UInt8),
  (z10 = List.drop n1.toNat (List.take n7.toNat d)) →
  (k (AV.row (0 : Nat) (0 : Nat) (0 : Nat) (List.drop n1.toNat (List.take n7.toNat d)).length) [] [Blk.row (0 : Nat) z10]) := by
  intro n1
  intro q1 -- n1 = IntKind.i64.wrap (n * (64 : Int))
  rw [IntKind.wrap_i64] at q1
  intro ⟨l1, u1⟩ -- (-9223372036854775808 : Int) ≤ n1 ∧ n1 ≤ (9223372036854775807 : Int)
  intro n4
  intro q4 -- n4 = IntKind.i64.wrap (n * (64 : Int))
  rw [IntKind.wrap_i64] at q4
  intro ⟨l4, u4⟩ -- (-9223372036854775808 : Int) ≤ n4 ∧ n4 ≤ (9223372036854775807 : Int)
  intro n7
  intro q7 -- n7 = IntKind.i64.wrap (n4 + (64 : Int))
  rw [IntKind.wrap_i64] at q7
  intro ⟨l7, u7⟩ -- (-9223372036854775808 : Int) ≤ n7 ∧ n7 ≤ (9223372036854775807 : Int)
  refine ⟨by first | omega | (dsimp only; omega), ?_⟩ -- (0 : Int) ≤ n1
  refine ⟨by first | omega | (dsimp only; omega), ?_⟩ -- n1 ≤ n7
  refine ⟨by first | omega | (dsimp only; omega), ?_⟩ -- n7 ≤ (↑d.length : Int)
  have h1 : (List.drop n1.toNat (List.take n7.toNat d)).length * (1 : Nat) ≤ (140737488355328 : Nat) := by
    rw [List.length_drop, List.length_take]; omega
  refine ⟨h1, ?_⟩
  intro z10
  intro qz10 -- z10 = List.drop n1.toNat (List.take n7.toNat d)
  -- k (AV.row (0 : Nat) (0 : Nat) (0 : Nat) (List.drop n1.toNat (List.take n7.toNat d)).length) [] [Blk.row (0 : Nat) z10]
  exact hk _ _ (by rw [qz10, List.drop_take, show n7.toNat - n1.toNat = 64 by omega, show n1.toNat = 64 * n.toNat by omega]; rfl) (by rw [qz10])

theorem rblock_ok : Holds Try.prog 30 blockS := by
  refine fn_sound (env := mkEnv T0) (tab_ok T0_ok) Try.func30 Try.call30 fun args k h => ?_
  match args, h with
  | [.agg [.sl 0 d], .int .i64 n], h => exact ⟨by kernel_rfl, fun _ _ => none, fun _ _ => none, .cast (by kernel_rfl) (rblock_vc d n h.1 k h.2)⟩
set_option maxHeartbeats 2000000 in
theorem ones_vc (x : Int) (hx : (0 : Int) ≤ x ∧ x ≤ (255 : Int)) (k : AV → List (Option Blk) → List Blk → Prop) (hk : ∀ (ys : List UInt8) (q : Nat), ys = List.replicate (64 : Nat) (UInt8.ofNat x.toNat) → ys.length = q → k (AV.row (0 : Nat) (0 : Nat) (0 : Nat) q) [] [Blk.row (0 : Nat) ys]) :
  (
   ((0 : Int) ≤ (64 : Int)) ∧
   ((64 : Int) ≤ (64 : Int)) ∧
   ((64 : Int) * (↑(1 : Nat) : Int) ≤ (140737488355328 : Int))) ∧
  (
   ∃ (v : Nat × List UInt8),
   (x = x) ∧
   ((0 : Nat) = (0 : Nat)) ∧
   (Int.toNat (64 : Int) = (64 : Nat)) ∧
   ((0 : Int) = (↑v.fst : Int)) ∧
   (List.replicate (Int.toNat (64 : Int)) (UInt8.ofNat (Int.toNat (0 : Int))) = v.snd) ∧
   (v.fst ≤ (64 : Nat)) ∧
   (v.snd = List.replicate v.fst (UInt8.ofNat x.toNat) ++ List.replicate ((64 : Nat) - v.fst) (0 : UInt8)) ∧
   (v.snd.length = (64 : Nat))) ∧
  ∀ (v_1 : Nat × List UInt8),
  (v_1.fst ≤ (64 : Nat) ∧ v_1.snd = List.replicate v_1.fst (UInt8.ofNat x.toNat) ++ List.replicate ((64 : Nat) - v_1.fst) (0 : UInt8) ∧ v_1.snd.length = (64 : Nat)) →
  br (decide ((↑v_1.fst : Int) < (64 : Int)))
   (((0 : Int) ≤ (↑v_1.fst : Int)) ∧
    ((↑v_1.fst : Int) < (↑(64 : Nat) : Int)) ∧
    ((0 : Nat) + (↑v_1.fst : Int).toNat < v_1.snd.length) ∧
    ∀ (z3 : List UInt8),
    (z3 = v_1.snd.set ((0 : Nat) + (↑v_1.fst : Int).toNat) (UInt8.ofNat x.toNat)) →
    ∀ (n5 : Int),
    (n5 = IntKind.i64.wrap ((↑v_1.fst : Int) + (1 : Int))) →
    ((-9223372036854775808 : Int) ≤ n5 ∧ n5 ≤ (9223372036854775807 : Int)) →
    ∃ (v' : Nat × List UInt8),
    (x = x) ∧
    ((0 : Nat) = (0 : Nat)) ∧
    ((64 : Nat) = (64 : Nat)) ∧
    (n5 = (↑v'.fst : Int)) ∧
    (z3 = v'.snd) ∧
    (
     (v'.fst ≤ (64 : Nat)) ∧
     (v'.snd = List.replicate v'.fst (UInt8.ofNat x.toNat) ++ List.replicate ((64 : Nat) - v'.fst) (0 : UInt8)) ∧
     (v'.snd.length = (64 : Nat))) ∧
    ((64 : Nat) - v'.fst < (64 : Nat) - v_1.fst))
   ((k (AV.row (0 : Nat) (0 : Nat) (0 : Nat) (64 : Nat)) [] [Blk.row (0 : Nat) v_1.snd])) := by
  refine ⟨?_, ?_⟩
  · -- left
    refine ⟨by first | omega | (dsimp only; omega), ?_⟩ -- (0 : Int) ≤ (64 : Int)
    refine ⟨by first | omega | (dsimp only; omega), ?_⟩ -- (64 : Int) ≤ (64 : Int)
    exact by omega -- (64 : Int) * (↑(1 : Nat) : Int) ≤ (140737488355328 : Int)
  refine ⟨?_, ?_⟩
  · -- left
    refine ⟨(Int.toNat (0 : Int), List.replicate (Int.toNat (64 : Int)) (UInt8.ofNat (Int.toNat (0 : Int)))), ?_⟩
    refine ⟨by first | with_reducible rfl | rfl, ?_⟩ -- x = x
    refine ⟨by first | with_reducible rfl | rfl, ?_⟩ -- (0 : Nat) = (0 : Nat)
    refine ⟨by show Int.toNat (64 : Int) = (64 : Nat); omega, ?_⟩ -- Int.toNat (64 : Int) = (64 : Nat)
    refine ⟨by show (0 : Int) = (↑(Int.toNat (0 : Int)) : Int); omega, ?_⟩ -- (0 : Int) = (↑(Int.toNat (0 : Int)) : Int)
    refine ⟨by first | with_reducible rfl | rfl, ?_⟩ -- List.replicate (Int.toNat (64 : Int)) (UInt8.ofNat (Int.toNat (0 : Int))) = List.replicate (Int.toNat (64 : Int)) (UInt8.ofNat (Int.toNat (0 : Int)))
    refine ⟨by show Int.toNat (0 : Int) ≤ (64 : Nat); omega, ?_⟩ -- Int.toNat (0 : Int) ≤ (64 : Nat)
    refine ⟨by rfl, ?_⟩ -- List.replicate (Int.toNat (64 : Int)) (UInt8.ofNat (Int.toNat (0 : Int))) = List.replicate (Int.toNat (0 : Int)) (UInt8.ofNat x.toNat) ++ List.replicate ((64 : Nat) - Int.toNat (0 : Int)) (0 : UInt8)
    exact by show (List.replicate (Int.toNat (64 : Int)) (UInt8.ofNat (Int.toNat (0 : Int)))).length = (64 : Nat); decide -- (List.replicate (Int.toNat (64 : Int)) (UInt8.ofNat (Int.toNat (0 : Int)))).length = (64 : Nat)
  intro v_1
  intro h1 -- v_1.fst ≤ (64 : Nat) ∧ v_1.snd = List.replicate v_1.fst (UInt8.ofNat x.toNat) ++ List.replicate ((64 : Nat) - v_1.fst) (0 : UInt8) ∧ v_1.snd.length = (64 : Nat)
  refine brd (fun c2 => ?_) (fun c2 => ?_) -- decide ((↑v_1.fst : Int) < (64 : Int))
  · -- yes
    refine ⟨by first | omega | (dsimp only; omega), ?_⟩ -- (0 : Int) ≤ (↑v_1.fst : Int)
    refine ⟨by assumption, ?_⟩ -- (↑v_1.fst : Int) < (↑(64 : Nat) : Int)
    refine ⟨by first | omega | (dsimp only; omega), ?_⟩ -- (0 : Nat) + (↑v_1.fst : Int).toNat < v_1.snd.length
    intro z3
    intro qz3 -- z3 = v_1.snd.set ((0 : Nat) + (↑v_1.fst : Int).toNat) (UInt8.ofNat x.toNat)
    intro n5
    intro q5 -- n5 = IntKind.i64.wrap ((↑v_1.fst : Int) + (1 : Int))
    rw [IntKind.wrap_i64] at q5
    intro ⟨l5, u5⟩ -- (-9223372036854775808 : Int) ≤ n5 ∧ n5 ≤ (9223372036854775807 : Int)
    refine ⟨(n5.toNat, z3), ?_⟩
    refine ⟨by first | with_reducible rfl | rfl, ?_⟩ -- x = x
    refine ⟨by first | with_reducible rfl | rfl, ?_⟩ -- (0 : Nat) = (0 : Nat)
    refine ⟨by first | with_reducible rfl | rfl, ?_⟩ -- (64 : Nat) = (64 : Nat)
    refine ⟨by show n5 = (↑n5.toNat : Int); omega, ?_⟩ -- n5 = (↑n5.toNat : Int)
    refine ⟨by first | with_reducible rfl | rfl, ?_⟩ -- z3 = z3
    refine ⟨?_, ?_⟩
    · -- left
      refine ⟨by show n5.toNat ≤ (64 : Nat); omega, ?_⟩ -- n5.toNat ≤ (64 : Nat)
      have h3 : z3 = List.replicate n5.toNat (UInt8.ofNat x.toNat) ++ List.replicate ((64 : Nat) - n5.toNat) (0 : UInt8) := by
        rw [qz3, h1.2.1, show 0 + (v_1.fst : Int).toNat = (List.replicate v_1.fst (UInt8.ofNat x.toNat)).length by simp, set_mid _ _ _ (by omega), show n5.toNat = v_1.fst + 1 by omega, List.replicate_succ', show 64 - (v_1.fst + 1) = 64 - v_1.fst - 1 by omega]
      refine ⟨h3, ?_⟩
      -- z3.length = (64 : Nat)
      rw [qz3, List.length_set]; exact h1.2.2
    exact by show (64 : Nat) - n5.toNat < (64 : Nat) - v_1.fst; omega -- (64 : Nat) - n5.toNat < (64 : Nat) - v_1.fst
  · -- no
    -- k (AV.row (0 : Nat) (0 : Nat) (0 : Nat) (64 : Nat)) [] [Blk.row (0 : Nat) v_1.snd]
    exact hk _ _ (by rw [h1.2.1, show v_1.fst = 64 by omega]; simp) h1.2.2

theorem ones_ok : Holds Try.prog 15 onesS := by
  refine fn_sound (env := mkEnv T0) (tab_ok T0_ok) Try.func15 Try.call15 fun args k h => ?_
  match args, h with
  | [.int .u8 x], h => exact ⟨by kernel_rfl, onesLoops x, fun _ _ => none, .cast (by kernel_rfl) (ones_vc x h.1 k h.2)⟩
set_option maxHeartbeats 2000000 in
theorem new_vc (n : Int) (k : AV → List (Option Blk) → List Blk → Prop) (hk : (newE n ≠ (0 : Int) → k (AV.tup [AV.agg [AV.nilsl], AV.int IntKind.i64 (180 : Int)]) [] []) ∧ (newE n = (0 : Int) → ∀ (ys : List UInt8) (q : Nat), ys = newO n → ys.length = q → k (AV.tup [AV.agg [AV.row (0 : Nat) (0 : Nat) (0 : Nat) q], AV.int IntKind.i64 (0 : Int)]) [] [Blk.row (0 : Nat) ys])) :
  br (bif decide (n < (1 : Int)) then true else decide (n > (64 : Int)))
   ((k (AV.tup [AV.agg [AV.nilsl], AV.int IntKind.i64 (180 : Int)]) [] []))
   (∀ (n1 : Int),
    (n1 = IntKind.i64.wrap (n * (64 : Int))) →
    ((-9223372036854775808 : Int) ≤ n1 ∧ n1 ≤ (9223372036854775807 : Int)) →
    (
     ((0 : Int) ≤ n1) ∧
     (n1 ≤ n1) ∧
     (n1 * (↑(1 : Nat) : Int) ≤ (140737488355328 : Int))) ∧
    (k (AV.tup [AV.agg [AV.row (0 : Nat) (0 : Nat) (0 : Nat) n1.toNat], AV.int IntKind.i64 (0 : Int)]) [] [Blk.row (0 : Nat) (List.replicate n1.toNat (UInt8.ofNat (Int.toNat (0 : Int))))])) := by
  refine br_intro (fun c1 => ?_) (fun c1 => ?_) -- bif decide (n < (1 : Int)) then true else decide (n > (64 : Int))
  · -- yes
    simp at c1 -- n < (1 : Int) ∨ (64 : Int) < n
    -- k (AV.tup [AV.agg [AV.nilsl], AV.int IntKind.i64 (180 : Int)]) [] []
    exact hk.1 (by unfold newE; rw [if_neg (by omega)]; decide)
  · -- no
    simp at c1 -- (1 : Int) ≤ n ∧ n ≤ (64 : Int)
    intro n1
    intro q1 -- n1 = IntKind.i64.wrap (n * (64 : Int))
    rw [IntKind.wrap_i64] at q1
    intro ⟨l1, u1⟩ -- (-9223372036854775808 : Int) ≤ n1 ∧ n1 ≤ (9223372036854775807 : Int)
    refine ⟨?_, ?_⟩
    · -- left
      refine ⟨by first | omega | (dsimp only; omega), ?_⟩ -- (0 : Int) ≤ n1
      refine ⟨by first | omega | (dsimp only; omega), ?_⟩ -- n1 ≤ n1
      exact by omega -- n1 * (↑(1 : Nat) : Int) ≤ (140737488355328 : Int)
    -- k (AV.tup [AV.agg [AV.row (0 : Nat) (0 : Nat) (0 : Nat) n1.toNat], AV.int IntKind.i64 (0 : Int)]) [] [Blk.row (0 : Nat) (List.replicate n1.toNat (UInt8.ofNat (Int.toNat (0 : Int))))]
    exact hk.2 (by unfold newE; rw [if_pos (by omega)]) _ _ (by unfold newO; rw [if_pos (by omega), show n1.toNat = 64 * n.toNat by omega]; rfl) (by simp)

theorem new_ok : Holds Try.prog 13 newS := by
  refine fn_sound (env := mkEnv T0) (tab_ok T0_ok) Try.func13 Try.call13 fun args k h => ?_
  match args, h with
  | [.int .i64 n], h => exact ⟨by kernel_rfl, fun _ _ => none, fun _ _ => none, .cast (by kernel_rfl) (new_vc n k h)⟩
set_option maxHeartbeats 2000000 in
theorem rnew_vc (n : Int) (k : AV → List (Option Blk) → List Blk → Prop) (hk : (newE n ≠ (0 : Int) → k (AV.tup [AV.agg [AV.nilsl], AV.int IntKind.i64 (180 : Int)]) [] []) ∧ (newE n = (0 : Int) → ∀ (ys : List UInt8) (q : Nat), ys = newO n → ys.length = q → k (AV.tup [AV.agg [AV.row (0 : Nat) (0 : Nat) (0 : Nat) q], AV.int IntKind.i64 (0 : Int)]) [] [Blk.row (0 : Nat) ys])) :
  br (bif decide (n < (1 : Int)) then true else decide (n > (64 : Int)))
   ((k (AV.tup [AV.agg [AV.nilsl], AV.int IntKind.i64 (180 : Int)]) [] []))
   (∀ (n1 : Int),
    (n1 = IntKind.i64.wrap (n * (64 : Int))) →
    ((-9223372036854775808 : Int) ≤ n1 ∧ n1 ≤ (9223372036854775807 : Int)) →
    (
     ((0 : Int) ≤ n1) ∧
     (n1 ≤ n1) ∧
     (n1 * (↑(1 : Nat) : Int) ≤ (140737488355328 : Int))) ∧
    (k (AV.tup [AV.agg [AV.row (0 : Nat) (0 : Nat) (0 : Nat) n1.toNat], AV.int IntKind.i64 (0 : Int)]) [] [Blk.row (0 : Nat) (List.replicate n1.toNat (UInt8.ofNat (Int.toNat (0 : Int))))])) := by
  refine br_intro (fun c1 => ?_) (fun c1 => ?_) -- bif decide (n < (1 : Int)) then true else decide (n > (64 : Int))
  · -- yes
    simp at c1 -- n < (1 : Int) ∨ (64 : Int) < n
    -- k (AV.tup [AV.agg [AV.nilsl], AV.int IntKind.i64 (180 : Int)]) [] []
    exact hk.1 (by unfold newE; rw [if_neg (by omega)]; decide)
  · -- no
    simp at c1 -- (1 : Int) ≤ n ∧ n ≤ (64 : Int)
    intro n1
    intro q1 -- n1 = IntKind.i64.wrap (n * (64 : Int))
    rw [IntKind.wrap_i64] at q1
    intro ⟨l1, u1⟩ -- (-9223372036854775808 : Int) ≤ n1 ∧ n1 ≤ (9223372036854775807 : Int)
    refine ⟨?_, ?_⟩
    · -- left
      refine ⟨by first | omega | (dsimp only; omega), ?_⟩ -- (0 : Int) ≤ n1
      refine ⟨by first | omega | (dsimp only; omega), ?_⟩ -- n1 ≤ n1
      exact by omega -- n1 * (↑(1 : Nat) : Int) ≤ (140737488355328 : Int)
    -- k (AV.tup [AV.agg [AV.row (0 : Nat) (0 : Nat) (0 : Nat) n1.toNat], AV.int IntKind.i64 (0 : Int)]) [] [Blk.row (0 : Nat) (List.replicate n1.toNat (UInt8.ofNat (Int.toNat (0 : Int))))]
    exact hk.2 (by unfold newE; rw [if_pos (by omega)]) _ _ (by unfold newO; rw [if_pos (by omega), show n1.toNat = 64 * n.toNat by omega]; rfl) (by simp)

theorem rnew_ok : Holds Try.prog 18 newS := by
  refine fn_sound (env := mkEnv T0) (tab_ok T0_ok) Try.func18 Try.call18 fun args k h => ?_
  match args, h with
  | [.int .i64 n], h => exact ⟨by kernel_rfl, fun _ _ => none, fun _ _ => none, .cast (by kernel_rfl) (rnew_vc n k h)⟩
end Go.Proofs.Ytiekaipompepdaa

