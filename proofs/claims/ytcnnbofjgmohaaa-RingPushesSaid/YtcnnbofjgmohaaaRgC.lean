import Derived.Test.YtcnnbofjgmohaaaRgB
namespace Go.Proofs.Ytcnnbofjgmohaaa
open Go Go.Eng Go.Rg Go.Proofs
set_option linter.unusedVariables false
set_option maxHeartbeats 2000000 in
theorem rnone_vc (n : Nat) (a : Int) (m : Int) (xs : List Int) (hr : ((1 : Nat) ≤ n ∧ n ≤ (1024 : Nat)) ∧ xs.length = n ∧ ((0 : Int) ≤ a ∧ a < (↑n : Int)) ∧ (0 : Int) ≤ m ∧ m ≤ (↑n : Int)) (k : AV → List (Option Blk) → List Blk → Prop) (hk : k (AV.bool false) [some (Blk.cells [AV.row (1 : Nat) (1 : Nat) (0 : Nat) n, AV.int IntKind.i64 a, AV.int IntKind.i64 m]), some (Blk.row (1 : Nat) xs)] []) :
  ∀ (n1 : Int),
  (n1 = (↑n : Int)) →
  (k (AV.bool (bif false then true else n1 == (0 : Int))) [some (Blk.cells [AV.row (1 : Nat) (1 : Nat) (0 : Nat) n, AV.int IntKind.i64 a, AV.int IntKind.i64 m]), some (Blk.row (1 : Nat) xs)] []) := by
  intro n1
  intro q1 -- n1 = (↑n : Int)
  -- k (AV.bool (bif false then true else n1 == (0 : Int))) [some (Blk.cells [AV.row (1 : Nat) (1 : Nat) (0 : Nat) n, AV.int IntKind.i64 a, AV.int IntKind.i64 m]), some (Blk.row (1 : Nat) xs)] []
  rw [show (bif false then true else n1 == (0 : Int)) = false by simp; omega]; exact hk

theorem rnone_ok : Holds Try.prog 20 noneS := by
  refine fn_soundB (env := mkEnv T0) (tab_ok T0_ok) Try.func20 Try.call20 (fun args B k h => ?_) (by decide)
  unfold noneS at h
  dsimp only at h
  split at h
  · rename_i n a m xs
    exact ⟨by kernel_rfl, fun _ _ => none, fun _ _ => none, .cast (by kernel_rfl) (rnone_vc n a m xs h.1 k h.2)⟩
  · exact h.elim
theorem T1_ok : TabOk Try.prog T1 := ⟨rnone_ok, trivial⟩
set_option maxHeartbeats 2000000 in
theorem rpush_vc (n : Nat) (a : Int) (m : Int) (xs : List Int) (x : Int) (hr : ((1 : Nat) ≤ n ∧ n ≤ (1024 : Nat)) ∧ xs.length = n ∧ ((0 : Int) ≤ a ∧ a < (↑n : Int)) ∧ (0 : Int) ≤ m ∧ m ≤ (↑n : Int)) (hx : (-9223372036854775808 : Int) ≤ x ∧ x ≤ (9223372036854775807 : Int)) (k : AV → List (Option Blk) → List Blk → Prop) (hk : ∀ (a1 m1 : Int) (ys : List Int), a1 = (a + (1 : Int)) % (↑n : Int) → m1 = min (m + (1 : Int)) (↑n : Int) → ys = xs.set a.toNat x → rOk n a1 m1 ys → k (AV.int IntKind.i64 (0 : Int)) [some (Blk.cells [AV.row (1 : Nat) (1 : Nat) (0 : Nat) n, AV.int IntKind.i64 a1, AV.int IntKind.i64 m1]), some (Blk.row (1 : Nat) ys)] []) :
  (
   (
    ((1 : Nat) ≤ n) ∧
    (n ≤ (1024 : Nat))) ∧
   (xs.length = n) ∧
   (
    ((0 : Int) ≤ a) ∧
    (a < (↑n : Int))) ∧
   ((0 : Int) ≤ m) ∧
   (m ≤ (↑n : Int))) ∧
  ∀ (n1 : Int),
  (n1 = a) →
  ((-9223372036854775808 : Int) ≤ n1 ∧ n1 ≤ (9223372036854775807 : Int)) →
  ((0 : Int) ≤ n1) ∧
  (n1 < (↑n : Int)) ∧
  ((0 : Nat) + n1.toNat < xs.length) ∧
  ∀ (z4 : List Int),
  (z4 = xs.set ((0 : Nat) + n1.toNat) x) →
  ∀ (n6 : Int),
  (n6 = a) →
  ((-9223372036854775808 : Int) ≤ n6 ∧ n6 ≤ (9223372036854775807 : Int)) →
  ∀ (n9 : Int),
  (n9 = IntKind.i64.wrap (n6 + (1 : Int))) →
  ((-9223372036854775808 : Int) ≤ n9 ∧ n9 ≤ (9223372036854775807 : Int)) →
  ∀ (n12 : Int),
  (n12 = (↑n : Int)) →
  ((-9223372036854775808 : Int) ≤ n12 ∧ n12 ≤ (9223372036854775807 : Int)) →
  (n12 ≠ (0 : Int)) ∧
  ∀ (n15 : Int),
  (n15 = n9.tmod n12) →
  ((-9223372036854775808 : Int) ≤ n15 ∧ n15 ≤ (9223372036854775807 : Int)) →
  ∀ (n18 : Int),
  (n18 = m) →
  ((-9223372036854775808 : Int) ≤ n18 ∧ n18 ≤ (9223372036854775807 : Int)) →
  ∀ (n21 : Int),
  (n21 = IntKind.i64.wrap (n18 + (1 : Int))) →
  ((-9223372036854775808 : Int) ≤ n21 ∧ n21 ≤ (9223372036854775807 : Int)) →
  ∀ (n24 : Int),
  (n24 = (↑n : Int)) →
  ((-9223372036854775808 : Int) ≤ n24 ∧ n24 ≤ (9223372036854775807 : Int)) →
  ∀ (n27 : Int),
  (n27 = min n21 n24) →
  ((-9223372036854775808 : Int) ≤ n27 ∧ n27 ≤ (9223372036854775807 : Int)) →
  (k (AV.int IntKind.i64 (0 : Int)) [some (Blk.cells [AV.row (1 : Nat) (1 : Nat) (0 : Nat) n, AV.int IntKind.i64 n15, AV.int IntKind.i64 n27]), some (Blk.row (1 : Nat) z4)] []) := by
  refine ⟨?_, ?_⟩
  · -- left
    refine ⟨by first | omega | (dsimp only; omega), ?_⟩ -- (1 : Nat) ≤ n ∧ n ≤ (1024 : Nat)
    refine ⟨by first | omega | (dsimp only; omega), ?_⟩ -- xs.length = n
    refine ⟨by first | omega | (dsimp only; omega), ?_⟩ -- (0 : Int) ≤ a ∧ a < (↑n : Int)
    refine ⟨by first | omega | (dsimp only; omega), ?_⟩ -- (0 : Int) ≤ m
    exact by omega -- m ≤ (↑n : Int)
  intro n1
  intro q1 -- n1 = a
  intro ⟨l1, u1⟩ -- (-9223372036854775808 : Int) ≤ n1 ∧ n1 ≤ (9223372036854775807 : Int)
  refine ⟨by first | omega | (dsimp only; omega), ?_⟩ -- (0 : Int) ≤ n1
  refine ⟨by first | omega | (dsimp only; omega), ?_⟩ -- n1 < (↑n : Int)
  refine ⟨by first | omega | (dsimp only; omega), ?_⟩ -- (0 : Nat) + n1.toNat < xs.length
  intro z4
  intro qz4 -- z4 = xs.set ((0 : Nat) + n1.toNat) x
  intro n6
  intro q6 -- n6 = a
  intro ⟨l6, u6⟩ -- (-9223372036854775808 : Int) ≤ n6 ∧ n6 ≤ (9223372036854775807 : Int)
  intro n9
  intro q9 -- n9 = IntKind.i64.wrap (n6 + (1 : Int))
  rw [IntKind.wrap_i64] at q9
  intro ⟨l9, u9⟩ -- (-9223372036854775808 : Int) ≤ n9 ∧ n9 ≤ (9223372036854775807 : Int)
  intro n12
  intro q12 -- n12 = (↑n : Int)
  intro ⟨l12, u12⟩ -- (-9223372036854775808 : Int) ≤ n12 ∧ n12 ≤ (9223372036854775807 : Int)
  refine ⟨by first | omega | (dsimp only; omega), ?_⟩ -- n12 ≠ (0 : Int)
  intro n15
  intro q15 -- n15 = n9.tmod n12
  rw [Int.tmod_eq_emod_of_nonneg (by omega)] at q15
  intro ⟨l15, u15⟩ -- (-9223372036854775808 : Int) ≤ n15 ∧ n15 ≤ (9223372036854775807 : Int)
  intro n18
  intro q18 -- n18 = m
  intro ⟨l18, u18⟩ -- (-9223372036854775808 : Int) ≤ n18 ∧ n18 ≤ (9223372036854775807 : Int)
  intro n21
  intro q21 -- n21 = IntKind.i64.wrap (n18 + (1 : Int))
  rw [IntKind.wrap_i64] at q21
  intro ⟨l21, u21⟩ -- (-9223372036854775808 : Int) ≤ n21 ∧ n21 ≤ (9223372036854775807 : Int)
  intro n24
  intro q24 -- n24 = (↑n : Int)
  intro ⟨l24, u24⟩ -- (-9223372036854775808 : Int) ≤ n24 ∧ n24 ≤ (9223372036854775807 : Int)
  intro n27
  intro q27 -- n27 = min n21 n24
  intro ⟨l27, u27⟩ -- (-9223372036854775808 : Int) ≤ n27 ∧ n27 ≤ (9223372036854775807 : Int)
  -- k (AV.int IntKind.i64 (0 : Int)) [some (Blk.cells [AV.row (1 : Nat) (1 : Nat) (0 : Nat) n, AV.int IntKind.i64 n15, AV.int IntKind.i64 n27]), some (Blk.row (1 : Nat) z4)] []
  have e9 : n9 = a + 1 := by omega
  exact hk n15 n27 z4 (by rw [q15, e9, q12]) (by omega) (by rw [qz4, Nat.zero_add, q1]) ⟨by omega, by rw [qz4]; simp; omega, ⟨by rw [q15]; exact Int.emod_nonneg _ (by omega), by rw [q15, q12]; exact Int.emod_lt_of_pos _ (by omega)⟩, by omega⟩

theorem rpush_ok : Holds Try.prog 8 pushS := by
  refine fn_soundB (env := mkEnv T1) (tab_ok T1_ok) Try.func8 Try.call8 (fun args B k h => ?_) (by decide)
  unfold pushS at h
  dsimp only at h
  split at h
  · rename_i x n a m xs
    exact ⟨by kernel_rfl, fun _ _ => none, fun _ _ => none, .cast (by kernel_rfl) (rpush_vc n a m xs x h.1 h.2.1 k h.2.2)⟩
  · exact h.elim
set_option maxHeartbeats 2000000 in
theorem rat_vc (n : Nat) (a : Int) (m : Int) (xs : List Int) (i : Int) (hr : ((1 : Nat) ≤ n ∧ n ≤ (1024 : Nat)) ∧ xs.length = n ∧ ((0 : Int) ≤ a ∧ a < (↑n : Int)) ∧ (0 : Int) ≤ m ∧ m ≤ (↑n : Int)) (hi : (-9223372036854775808 : Int) ≤ i ∧ i ≤ (9223372036854775807 : Int)) (k : AV → List (Option Blk) → List Blk → Prop) (hk : ∀ (v e : Int), v = atV n a m xs i → e = atE m i → (-9223372036854775808 : Int) ≤ v ∧ v ≤ (9223372036854775807 : Int) → e = (0 : Int) ∨ e = (2 : Int) → k (AV.tup [AV.int IntKind.i64 v, AV.int IntKind.i64 e]) [some (Blk.cells [AV.row (1 : Nat) (1 : Nat) (0 : Nat) n, AV.int IntKind.i64 a, AV.int IntKind.i64 m]), some (Blk.row (1 : Nat) xs)] []) :
  (
   (
    ((1 : Nat) ≤ n) ∧
    (n ≤ (1024 : Nat))) ∧
   (xs.length = n) ∧
   (
    ((0 : Int) ≤ a) ∧
    (a < (↑n : Int))) ∧
   ((0 : Int) ≤ m) ∧
   (m ≤ (↑n : Int))) ∧
  ∀ (n1 : Int),
  (n1 = m) →
  br (bif decide (i < (0 : Int)) then true else decide (i ≥ n1))
   ((k (AV.tup [AV.int IntKind.i64 (0 : Int), AV.int IntKind.i64 (2 : Int)]) [some (Blk.cells [AV.row (1 : Nat) (1 : Nat) (0 : Nat) n, AV.int IntKind.i64 a, AV.int IntKind.i64 m]), some (Blk.row (1 : Nat) xs)] []))
   (∀ (n3 : Int),
    (n3 = a) →
    ((-9223372036854775808 : Int) ≤ n3 ∧ n3 ≤ (9223372036854775807 : Int)) →
    ∀ (n6 : Int),
    (n6 = IntKind.i64.wrap (n3 - (1 : Int))) →
    ((-9223372036854775808 : Int) ≤ n6 ∧ n6 ≤ (9223372036854775807 : Int)) →
    ∀ (n9 : Int),
    (n9 = IntKind.i64.wrap (n6 - i)) →
    ((-9223372036854775808 : Int) ≤ n9 ∧ n9 ≤ (9223372036854775807 : Int)) →
    ∀ (n12 : Int),
    (n12 = (↑n : Int)) →
    ((-9223372036854775808 : Int) ≤ n12 ∧ n12 ≤ (9223372036854775807 : Int)) →
    ∀ (n15 : Int),
    (n15 = IntKind.i64.wrap ((2 : Int) * n12)) →
    ((-9223372036854775808 : Int) ≤ n15 ∧ n15 ≤ (9223372036854775807 : Int)) →
    ∀ (n18 : Int),
    (n18 = IntKind.i64.wrap (n9 + n15)) →
    ((-9223372036854775808 : Int) ≤ n18 ∧ n18 ≤ (9223372036854775807 : Int)) →
    ∀ (n21 : Int),
    (n21 = (↑n : Int)) →
    ((-9223372036854775808 : Int) ≤ n21 ∧ n21 ≤ (9223372036854775807 : Int)) →
    (n21 ≠ (0 : Int)) ∧
    ∀ (n24 : Int),
    (n24 = n18.tmod n21) →
    ((-9223372036854775808 : Int) ≤ n24 ∧ n24 ≤ (9223372036854775807 : Int)) →
    ((0 : Int) ≤ n24) ∧
    (n24 < (↑n : Int)) ∧
    ((0 : Nat) + n24.toNat < xs.length) ∧
    ∀ (n27 : Int),
    (n27 = xs.getD ((0 : Nat) + n24.toNat) (0 : Int)) →
    ((-9223372036854775808 : Int) ≤ n27 ∧ n27 ≤ (9223372036854775807 : Int)) →
    (k (AV.tup [AV.int IntKind.i64 n27, AV.int IntKind.i64 (0 : Int)]) [some (Blk.cells [AV.row (1 : Nat) (1 : Nat) (0 : Nat) n, AV.int IntKind.i64 a, AV.int IntKind.i64 m]), some (Blk.row (1 : Nat) xs)] [])) := by
  refine ⟨?_, ?_⟩
  · -- left
    refine ⟨by first | omega | (dsimp only; omega), ?_⟩ -- (1 : Nat) ≤ n ∧ n ≤ (1024 : Nat)
    refine ⟨by first | omega | (dsimp only; omega), ?_⟩ -- xs.length = n
    refine ⟨by first | omega | (dsimp only; omega), ?_⟩ -- (0 : Int) ≤ a ∧ a < (↑n : Int)
    refine ⟨by first | omega | (dsimp only; omega), ?_⟩ -- (0 : Int) ≤ m
    exact by omega -- m ≤ (↑n : Int)
  intro n1
  intro q1 -- n1 = m
  refine br_intro (fun c1 => ?_) (fun c1 => ?_) -- bif decide (i < (0 : Int)) then true else decide (i ≥ n1)
  · -- yes
    simp at c1 -- i < (0 : Int) ∨ n1 ≤ i
    -- k (AV.tup [AV.int IntKind.i64 (0 : Int), AV.int IntKind.i64 (2 : Int)]) [some (Blk.cells [AV.row (1 : Nat) (1 : Nat) (0 : Nat) n, AV.int IntKind.i64 a, AV.int IntKind.i64 m]), some (Blk.row (1 : Nat) xs)] []
    exact hk 0 2 (by unfold atV; rw [if_neg (by omega)]) (by unfold atE; rw [if_neg (by omega)]) (by omega) (.inr rfl)
  · -- no
    simp at c1 -- (0 : Int) ≤ i ∧ i < n1
    intro n3
    intro q3 -- n3 = a
    intro ⟨l3, u3⟩ -- (-9223372036854775808 : Int) ≤ n3 ∧ n3 ≤ (9223372036854775807 : Int)
    intro n6
    intro q6 -- n6 = IntKind.i64.wrap (n3 - (1 : Int))
    rw [IntKind.wrap_i64] at q6
    intro ⟨l6, u6⟩ -- (-9223372036854775808 : Int) ≤ n6 ∧ n6 ≤ (9223372036854775807 : Int)
    intro n9
    intro q9 -- n9 = IntKind.i64.wrap (n6 - i)
    rw [IntKind.wrap_i64] at q9
    intro ⟨l9, u9⟩ -- (-9223372036854775808 : Int) ≤ n9 ∧ n9 ≤ (9223372036854775807 : Int)
    intro n12
    intro q12 -- n12 = (↑n : Int)
    intro ⟨l12, u12⟩ -- (-9223372036854775808 : Int) ≤ n12 ∧ n12 ≤ (9223372036854775807 : Int)
    intro n15
    intro q15 -- n15 = IntKind.i64.wrap ((2 : Int) * n12)
    rw [IntKind.wrap_i64] at q15
    intro ⟨l15, u15⟩ -- (-9223372036854775808 : Int) ≤ n15 ∧ n15 ≤ (9223372036854775807 : Int)
    intro n18
    intro q18 -- n18 = IntKind.i64.wrap (n9 + n15)
    rw [IntKind.wrap_i64] at q18
    intro ⟨l18, u18⟩ -- (-9223372036854775808 : Int) ≤ n18 ∧ n18 ≤ (9223372036854775807 : Int)
    intro n21
    intro q21 -- n21 = (↑n : Int)
    intro ⟨l21, u21⟩ -- (-9223372036854775808 : Int) ≤ n21 ∧ n21 ≤ (9223372036854775807 : Int)
    refine ⟨by first | omega | (dsimp only; omega), ?_⟩ -- n21 ≠ (0 : Int)
    intro n24
    intro q24 -- n24 = n18.tmod n21
    rw [Int.tmod_eq_emod_of_nonneg (by omega)] at q24
    intro ⟨l24, u24⟩ -- (-9223372036854775808 : Int) ≤ n24 ∧ n24 ≤ (9223372036854775807 : Int)
    have h2 : (0 : Int) ≤ n24 := by
      rw [q24]; exact Int.emod_nonneg _ (by omega)
    refine ⟨h2, ?_⟩
    have h3 : n24 < (↑n : Int) := by
      rw [q24, q21]; exact Int.emod_lt_of_pos _ (by omega)
    refine ⟨h3, ?_⟩
    refine ⟨by first | omega | (dsimp only; omega), ?_⟩ -- (0 : Nat) + n24.toNat < xs.length
    intro n27
    intro q27 -- n27 = xs.getD ((0 : Nat) + n24.toNat) (0 : Int)
    intro ⟨l27, u27⟩ -- (-9223372036854775808 : Int) ≤ n27 ∧ n27 ≤ (9223372036854775807 : Int)
    -- k (AV.tup [AV.int IntKind.i64 n27, AV.int IntKind.i64 (0 : Int)]) [some (Blk.cells [AV.row (1 : Nat) (1 : Nat) (0 : Nat) n, AV.int IntKind.i64 a, AV.int IntKind.i64 m]), some (Blk.row (1 : Nat) xs)] []
    have e18 : n18 = a - 1 - i + 2 * (n : Int) := by omega
    have e : n24 = rIx n a i := by unfold rIx; rw [q24, e18, q21]
    exact hk n27 0 (by unfold atV; rw [if_pos (by omega)]; unfold rAt; rw [q27, e, Nat.zero_add]) (by unfold atE; rw [if_pos (by omega)]) (by omega) (.inl rfl)

theorem rat_ok : Holds Try.prog 11 atS := by
  refine fn_soundB (env := mkEnv T1) (tab_ok T1_ok) Try.func11 Try.call11 (fun args B k h => ?_) (by decide)
  unfold atS at h
  dsimp only at h
  split at h
  · rename_i i n a m xs
    exact ⟨by kernel_rfl, fun _ _ => none, fun _ _ => none, .cast (by kernel_rfl) (rat_vc n a m xs i h.1 h.2.1 k h.2.2)⟩
  · exact h.elim
theorem T2_ok : TabOk Try.prog T2 := ⟨rat_ok, T1_ok⟩
set_option maxHeartbeats 2000000 in
theorem rfull_vc (n : Nat) (a : Int) (m : Int) (xs : List Int) (hr : ((1 : Nat) ≤ n ∧ n ≤ (1024 : Nat)) ∧ xs.length = n ∧ ((0 : Int) ≤ a ∧ a < (↑n : Int)) ∧ (0 : Int) ≤ m ∧ m ≤ (↑n : Int)) (k : AV → List (Option Blk) → List Blk → Prop) (hk : k (AV.bool (m == (↑n : Int))) [some (Blk.cells [AV.row (1 : Nat) (1 : Nat) (0 : Nat) n, AV.int IntKind.i64 a, AV.int IntKind.i64 m]), some (Blk.row (1 : Nat) xs)] []) :
  (
   (
    ((1 : Nat) ≤ n) ∧
    (n ≤ (1024 : Nat))) ∧
   (xs.length = n) ∧
   (
    ((0 : Int) ≤ a) ∧
    (a < (↑n : Int))) ∧
   ((0 : Int) ≤ m) ∧
   (m ≤ (↑n : Int))) ∧
  ∀ (n1 : Int),
  (n1 = m) →
  ∀ (n3 : Int),
  (n3 = (↑n : Int)) →
  (k (AV.bool (bif !false then n1 == n3 else false)) [some (Blk.cells [AV.row (1 : Nat) (1 : Nat) (0 : Nat) n, AV.int IntKind.i64 a, AV.int IntKind.i64 m]), some (Blk.row (1 : Nat) xs)] []) := by
  refine ⟨?_, ?_⟩
  · -- left
    refine ⟨by first | omega | (dsimp only; omega), ?_⟩ -- (1 : Nat) ≤ n ∧ n ≤ (1024 : Nat)
    refine ⟨by first | omega | (dsimp only; omega), ?_⟩ -- xs.length = n
    refine ⟨by first | omega | (dsimp only; omega), ?_⟩ -- (0 : Int) ≤ a ∧ a < (↑n : Int)
    refine ⟨by first | omega | (dsimp only; omega), ?_⟩ -- (0 : Int) ≤ m
    exact by omega -- m ≤ (↑n : Int)
  intro n1
  intro q1 -- n1 = m
  intro n3
  intro q3 -- n3 = (↑n : Int)
  -- k (AV.bool (bif !false then n1 == n3 else false)) [some (Blk.cells [AV.row (1 : Nat) (1 : Nat) (0 : Nat) n, AV.int IntKind.i64 a, AV.int IntKind.i64 m]), some (Blk.row (1 : Nat) xs)] []
  rw [show (bif !false then n1 == n3 else false) = (m == (n : Int)) by rw [q1, q3]; rfl]; exact hk

theorem rfull_ok : Holds Try.prog 10 fullS := by
  refine fn_soundB (env := mkEnv T1) (tab_ok T1_ok) Try.func10 Try.call10 (fun args B k h => ?_) (by decide)
  unfold fullS at h
  dsimp only at h
  split at h
  · rename_i n a m xs
    exact ⟨by kernel_rfl, fun _ _ => none, fun _ _ => none, .cast (by kernel_rfl) (rfull_vc n a m xs h.1 k h.2)⟩
  · exact h.elim
set_option maxHeartbeats 2000000 in
theorem rall_vc (n : Nat) (a : Int) (m : Int) (xs : List Int) (hr : ((1 : Nat) ≤ n ∧ n ≤ (1024 : Nat)) ∧ xs.length = n ∧ ((0 : Int) ≤ a ∧ a < (↑n : Int)) ∧ (0 : Int) ≤ m ∧ m ≤ (↑n : Int)) (k : AV → List (Option Blk) → List Blk → Prop) (hk : ∀ (ys : List Int) (q : Nat), ys = allR n a m xs q → (↑q : Int) = m → k (AV.tup [AV.row (1 : Nat) (2 : Nat) (0 : Nat) q, AV.int IntKind.i64 (0 : Int)]) [some (Blk.cells [AV.row (1 : Nat) (1 : Nat) (0 : Nat) n, AV.int IntKind.i64 a, AV.int IntKind.i64 m]), some (Blk.row (1 : Nat) xs)] [Blk.row (1 : Nat) ys]) :
  (
   (
    ((1 : Nat) ≤ n) ∧
    (n ≤ (1024 : Nat))) ∧
   (xs.length = n) ∧
   (
    ((0 : Int) ≤ a) ∧
    (a < (↑n : Int))) ∧
   ((0 : Int) ≤ m) ∧
   (m ≤ (↑n : Int))) ∧
  ∀ (n1 : Int),
  (n1 = m) →
  ((-9223372036854775808 : Int) ≤ n1 ∧ n1 ≤ (9223372036854775807 : Int)) →
  (
   ((0 : Int) ≤ (0 : Int)) ∧
   ((0 : Int) ≤ n1) ∧
   (n1 * (↑(8 : Nat) : Int) ≤ (140737488355328 : Int))) ∧
  ∀ (n4 : Int),
  (n4 = m) →
  ((-9223372036854775808 : Int) ≤ n4 ∧ n4 ≤ (9223372036854775807 : Int)) →
  ∀ (n7 : Int),
  (n7 = IntKind.i64.wrap (n4 - (1 : Int))) →
  ((-9223372036854775808 : Int) ≤ n7 ∧ n7 ≤ (9223372036854775807 : Int)) →
  (
   ∃ (v : Int × Nat × List Int),
   ((0 : Nat) = (0 : Nat)) ∧
   (Int.toNat (0 : Int) = v.snd.fst) ∧
   (n7 = v.fst) ∧
   ((0 : Nat) = (0 : Nat)) ∧
   (n = n) ∧
   (a = a) ∧
   (m = m) ∧
   (xs = xs) ∧
   (List.replicate (Int.toNat (0 : Int)) (0 : Int) = v.snd.snd) ∧
   (
    ((-1 : Int) ≤ v.fst) ∧
    (v.fst ≤ m - (1 : Int))) ∧
   ((↑v.snd.fst : Int) = m - (1 : Int) - v.fst) ∧
   (v.snd.snd = allR n a m xs v.snd.fst) ∧
   (v.snd.snd.length = v.snd.fst)) ∧
  ∀ (v_10 : Int × Nat × List Int),
  (((-1 : Int) ≤ v_10.fst ∧ v_10.fst ≤ m - (1 : Int)) ∧ (↑v_10.snd.fst : Int) = m - (1 : Int) - v_10.fst ∧ v_10.snd.snd = allR n a m xs v_10.snd.fst ∧ v_10.snd.snd.length = v_10.snd.fst) →
  br (decide (v_10.fst ≥ (0 : Int)))
   ((
     (
      ((1 : Nat) ≤ n) ∧
      (n ≤ (1024 : Nat))) ∧
     (xs.length = n) ∧
     (
      ((0 : Int) ≤ a) ∧
      (a < (↑n : Int))) ∧
     ((0 : Int) ≤ m) ∧
     (m ≤ (↑n : Int))) ∧
    (
     ((-9223372036854775808 : Int) ≤ v_10.fst) ∧
     (v_10.fst ≤ (9223372036854775807 : Int))) ∧
    ∀ (v_12 : Int),
    ∀ (e_13 : Int),
    (v_12 = atV n a m xs v_10.fst) →
    (e_13 = atE m v_10.fst) →
    ((-9223372036854775808 : Int) ≤ v_12 ∧ v_12 ≤ (9223372036854775807 : Int)) →
    (e_13 = (0 : Int) ∨ e_13 = (2 : Int)) →
    ((v_10.snd.fst + (1 : Nat)) * (8 : Nat) ≤ (140737488355328 : Nat)) ∧
    ∀ (z18 : List Int),
    (z18 = List.take v_10.snd.fst v_10.snd.snd ++ List.take (1 : Nat) (List.drop (0 : Nat) [v_12])) →
    ∀ (n20 : Int),
    (n20 = IntKind.i64.wrap (v_10.fst - (1 : Int))) →
    ((-9223372036854775808 : Int) ≤ n20 ∧ n20 ≤ (9223372036854775807 : Int)) →
    ∃ (v' : Int × Nat × List Int),
    ((0 : Nat) = (0 : Nat)) ∧
    (v_10.snd.fst + (1 : Nat) = v'.snd.fst) ∧
    (n20 = v'.fst) ∧
    ((0 : Nat) = (0 : Nat)) ∧
    (n = n) ∧
    (a = a) ∧
    (m = m) ∧
    (xs = xs) ∧
    (z18 = v'.snd.snd) ∧
    (
     (
      ((-1 : Int) ≤ v'.fst) ∧
      (v'.fst ≤ m - (1 : Int))) ∧
     ((↑v'.snd.fst : Int) = m - (1 : Int) - v'.fst) ∧
     (v'.snd.snd = allR n a m xs v'.snd.fst) ∧
     (v'.snd.snd.length = v'.snd.fst)) ∧
    ((v'.fst + (1 : Int)).toNat < (v_10.fst + (1 : Int)).toNat))
   ((k (AV.tup [AV.row (1 : Nat) (2 : Nat) (0 : Nat) v_10.snd.fst, AV.int IntKind.i64 (0 : Int)]) [some (Blk.cells [AV.row (1 : Nat) (1 : Nat) (0 : Nat) n, AV.int IntKind.i64 a, AV.int IntKind.i64 m]), some (Blk.row (1 : Nat) xs)] [Blk.row (1 : Nat) v_10.snd.snd])) := by
  refine ⟨?_, ?_⟩
  · -- left
    refine ⟨by first | omega | (dsimp only; omega), ?_⟩ -- (1 : Nat) ≤ n ∧ n ≤ (1024 : Nat)
    refine ⟨by first | omega | (dsimp only; omega), ?_⟩ -- xs.length = n
    refine ⟨by first | omega | (dsimp only; omega), ?_⟩ -- (0 : Int) ≤ a ∧ a < (↑n : Int)
    refine ⟨by first | omega | (dsimp only; omega), ?_⟩ -- (0 : Int) ≤ m
    exact by omega -- m ≤ (↑n : Int)
  intro n1
  intro q1 -- n1 = m
  intro ⟨l1, u1⟩ -- (-9223372036854775808 : Int) ≤ n1 ∧ n1 ≤ (9223372036854775807 : Int)
  refine ⟨?_, ?_⟩
  · -- left
    refine ⟨by first | omega | (dsimp only; omega), ?_⟩ -- (0 : Int) ≤ (0 : Int)
    refine ⟨by first | omega | (dsimp only; omega), ?_⟩ -- (0 : Int) ≤ n1
    exact by omega -- n1 * (↑(8 : Nat) : Int) ≤ (140737488355328 : Int)
  intro n4
  intro q4 -- n4 = m
  intro ⟨l4, u4⟩ -- (-9223372036854775808 : Int) ≤ n4 ∧ n4 ≤ (9223372036854775807 : Int)
  intro n7
  intro q7 -- n7 = IntKind.i64.wrap (n4 - (1 : Int))
  rw [IntKind.wrap_i64] at q7
  intro ⟨l7, u7⟩ -- (-9223372036854775808 : Int) ≤ n7 ∧ n7 ≤ (9223372036854775807 : Int)
  refine ⟨?_, ?_⟩
  · -- left
    refine ⟨(n7, Int.toNat (0 : Int), List.replicate (Int.toNat (0 : Int)) (0 : Int)), ?_⟩
    refine ⟨by first | with_reducible rfl | rfl, ?_⟩ -- (0 : Nat) = (0 : Nat)
    refine ⟨by first | with_reducible rfl | rfl, ?_⟩ -- Int.toNat (0 : Int) = Int.toNat (0 : Int)
    refine ⟨by first | with_reducible rfl | rfl, ?_⟩ -- n7 = n7
    refine ⟨by first | with_reducible rfl | rfl, ?_⟩ -- (0 : Nat) = (0 : Nat)
    refine ⟨by first | with_reducible rfl | rfl, ?_⟩ -- n = n
    refine ⟨by first | with_reducible rfl | rfl, ?_⟩ -- a = a
    refine ⟨by first | with_reducible rfl | rfl, ?_⟩ -- m = m
    refine ⟨by first | with_reducible rfl | rfl, ?_⟩ -- xs = xs
    refine ⟨by first | with_reducible rfl | rfl, ?_⟩ -- List.replicate (Int.toNat (0 : Int)) (0 : Int) = List.replicate (Int.toNat (0 : Int)) (0 : Int)
    refine ⟨by first | omega | (dsimp only; omega), ?_⟩ -- (-1 : Int) ≤ n7 ∧ n7 ≤ m - (1 : Int)
    refine ⟨by show (↑(Int.toNat (0 : Int)) : Int) = m - (1 : Int) - n7; omega, ?_⟩ -- (↑(Int.toNat (0 : Int)) : Int) = m - (1 : Int) - n7
    refine ⟨by rfl, ?_⟩ -- List.replicate (Int.toNat (0 : Int)) (0 : Int) = allR n a m xs (Int.toNat (0 : Int))
    exact by show (List.replicate (Int.toNat (0 : Int)) (0 : Int)).length = Int.toNat (0 : Int); decide -- (List.replicate (Int.toNat (0 : Int)) (0 : Int)).length = Int.toNat (0 : Int)
  intro v_10
  intro h1 -- ((-1 : Int) ≤ v_10.fst ∧ v_10.fst ≤ m - (1 : Int)) ∧ (↑v_10.snd.fst : Int) = m - (1 : Int) - v_10.fst ∧ v_10.snd.snd = allR n a m xs v_10.snd.fst ∧ v_10.snd.snd.length = v_10.snd.fst
  refine brd (fun c2 => ?_) (fun c2 => ?_) -- decide (v_10.fst ≥ (0 : Int))
  · -- yes
    refine ⟨?_, ?_⟩
    · -- left
      refine ⟨by first | omega | (dsimp only; omega), ?_⟩ -- (1 : Nat) ≤ n ∧ n ≤ (1024 : Nat)
      refine ⟨by first | omega | (dsimp only; omega), ?_⟩ -- xs.length = n
      refine ⟨by first | omega | (dsimp only; omega), ?_⟩ -- (0 : Int) ≤ a ∧ a < (↑n : Int)
      refine ⟨by first | omega | (dsimp only; omega), ?_⟩ -- (0 : Int) ≤ m
      exact by omega -- m ≤ (↑n : Int)
    refine ⟨by first | omega | (dsimp only; omega), ?_⟩ -- (-9223372036854775808 : Int) ≤ v_10.fst ∧ v_10.fst ≤ (9223372036854775807 : Int)
    intro v_12
    intro e_13
    intro h3 -- v_12 = atV n a m xs v_10.fst
    intro h4 -- e_13 = atE m v_10.fst
    intro ⟨a5, b5⟩ -- (-9223372036854775808 : Int) ≤ v_12 ∧ v_12 ≤ (9223372036854775807 : Int)
    intro h6 -- e_13 = (0 : Int) ∨ e_13 = (2 : Int)
    refine ⟨by first | omega | (dsimp only; omega), ?_⟩ -- (v_10.snd.fst + (1 : Nat)) * (8 : Nat) ≤ (140737488355328 : Nat)
    intro z18
    intro qz18 -- z18 = List.take v_10.snd.fst v_10.snd.snd ++ List.take (1 : Nat) (List.drop (0 : Nat) [v_12])
    intro n20
    intro q20 -- n20 = IntKind.i64.wrap (v_10.fst - (1 : Int))
    rw [IntKind.wrap_i64] at q20
    intro ⟨l20, u20⟩ -- (-9223372036854775808 : Int) ≤ n20 ∧ n20 ≤ (9223372036854775807 : Int)
    refine ⟨(n20, v_10.snd.fst + (1 : Nat), z18), ?_⟩
    refine ⟨by first | with_reducible rfl | rfl, ?_⟩ -- (0 : Nat) = (0 : Nat)
    refine ⟨by first | with_reducible rfl | rfl, ?_⟩ -- v_10.snd.fst + (1 : Nat) = v_10.snd.fst + (1 : Nat)
    refine ⟨by first | with_reducible rfl | rfl, ?_⟩ -- n20 = n20
    refine ⟨by first | with_reducible rfl | rfl, ?_⟩ -- (0 : Nat) = (0 : Nat)
    refine ⟨by first | with_reducible rfl | rfl, ?_⟩ -- n = n
    refine ⟨by first | with_reducible rfl | rfl, ?_⟩ -- a = a
    refine ⟨by first | with_reducible rfl | rfl, ?_⟩ -- m = m
    refine ⟨by first | with_reducible rfl | rfl, ?_⟩ -- xs = xs
    refine ⟨by first | with_reducible rfl | rfl, ?_⟩ -- z18 = z18
    refine ⟨?_, ?_⟩
    · -- left
      refine ⟨by first | omega | (dsimp only; omega), ?_⟩ -- (-1 : Int) ≤ n20 ∧ n20 ≤ m - (1 : Int)
      refine ⟨by show (↑(v_10.snd.fst + (1 : Nat)) : Int) = m - (1 : Int) - n20; omega, ?_⟩ -- (↑(v_10.snd.fst + (1 : Nat)) : Int) = m - (1 : Int) - n20
      have h7 : z18 = allR n a m xs (v_10.snd.fst + (1 : Nat)) := by
        rw [qz18, allR_succ, ← h1.2.2.1, List.take_of_length_le (by omega), h3]
        unfold atV
        rw [if_pos (by omega), show v_10.fst = m - 1 - (v_10.snd.fst : Int) by omega]
        rfl
      refine ⟨h7, ?_⟩
      -- z18.length = v_10.snd.fst + (1 : Nat)
      rw [h7, allR_length]
    exact by show (n20 + (1 : Int)).toNat < (v_10.fst + (1 : Int)).toNat; omega -- (n20 + (1 : Int)).toNat < (v_10.fst + (1 : Int)).toNat
  · -- no
    -- k (AV.tup [AV.row (1 : Nat) (2 : Nat) (0 : Nat) v_10.snd.fst, AV.int IntKind.i64 (0 : Int)]) [some (Blk.cells [AV.row (1 : Nat) (1 : Nat) (0 : Nat) n, AV.int IntKind.i64 a, AV.int IntKind.i64 m]), some (Blk.row (1 : Nat) xs)] [Blk.row (1 : Nat) v_10.snd.snd]
    exact hk _ _ h1.2.2.1 (by omega)

theorem rall_ok : Holds Try.prog 9 allS := by
  refine fn_soundB (env := mkEnv T2) (tab_ok T2_ok) Try.func9 Try.call9 (fun args B k h => ?_) (by decide)
  unfold allS at h
  dsimp only at h
  split at h
  · rename_i n a m xs
    exact ⟨by kernel_rfl, allLoops n a m xs, fun _ _ => none, .cast (by kernel_rfl) (rall_vc n a m xs h.1 k h.2)⟩
  · exact h.elim
theorem T3_ok : TabOk Try.prog T3 := ⟨add64_ok, T2_ok⟩
set_option maxHeartbeats 2000000 in
theorem rsum_vc (n : Nat) (a : Int) (m : Int) (xs : List Int) (hr : ((1 : Nat) ≤ n ∧ n ≤ (1024 : Nat)) ∧ xs.length = n ∧ ((0 : Int) ≤ a ∧ a < (↑n : Int)) ∧ (0 : Int) ≤ m ∧ m ≤ (↑n : Int)) (k : AV → List (Option Blk) → List Blk → Prop) (hk : ∀ (s : Int), s = clampS (sumR n a xs m.toNat) → (-4611686018427387904 : Int) ≤ s ∧ s ≤ (4611686018427387904 : Int) → k (AV.tup [AV.int IntKind.i64 s, AV.int IntKind.i64 (0 : Int)]) [some (Blk.cells [AV.row (1 : Nat) (1 : Nat) (0 : Nat) n, AV.int IntKind.i64 a, AV.int IntKind.i64 m]), some (Blk.row (1 : Nat) xs)] []) :
  (
   (
    ((1 : Nat) ≤ n) ∧
    (n ≤ (1024 : Nat))) ∧
   (xs.length = n) ∧
   (
    ((0 : Int) ≤ a) ∧
    (a < (↑n : Int))) ∧
   ((0 : Int) ≤ m) ∧
   (m ≤ (↑n : Int))) ∧
  ∀ (n1 : Int),
  (n1 = m) →
  ((-9223372036854775808 : Int) ≤ n1 ∧ n1 ≤ (9223372036854775807 : Int)) →
  (
   ∃ (v : Int × Int × Int),
   ((0 : Int) = v.fst) ∧
   ((0 : Int) = v.snd.fst) ∧
   (n1 = m) ∧
   ((0 : Int) = v.snd.snd) ∧
   ((0 : Nat) = (0 : Nat)) ∧
   (n = n) ∧
   (a = a) ∧
   (m = m) ∧
   (xs = xs) ∧
   (
    ((0 : Int) ≤ v.snd.snd) ∧
    (v.snd.snd ≤ m)) ∧
   (
    ((0 : Int) ≤ v.snd.fst) ∧
    (v.snd.fst ≤ (18446744073709551615 : Int))) ∧
   (v.fst * (18446744073709551616 : Int) + v.snd.fst = sumR n a xs v.snd.snd.toNat) ∧
   ((-9223372036854775808 : Int) * v.snd.snd ≤ v.fst * (18446744073709551616 : Int) + v.snd.fst) ∧
   (v.fst * (18446744073709551616 : Int) + v.snd.fst ≤ (9223372036854775808 : Int) * v.snd.snd)) ∧
  ∀ (v_4 : Int × Int × Int),
  (((0 : Int) ≤ v_4.snd.snd ∧ v_4.snd.snd ≤ m) ∧ ((0 : Int) ≤ v_4.snd.fst ∧ v_4.snd.fst ≤ (18446744073709551615 : Int)) ∧ v_4.fst * (18446744073709551616 : Int) + v_4.snd.fst = sumR n a xs v_4.snd.snd.toNat ∧ (-9223372036854775808 : Int) * v_4.snd.snd ≤ v_4.fst * (18446744073709551616 : Int) + v_4.snd.fst ∧ v_4.fst * (18446744073709551616 : Int) + v_4.snd.fst ≤ (9223372036854775808 : Int) * v_4.snd.snd) →
  br (decide (v_4.snd.snd < m))
   ((
     (
      ((1 : Nat) ≤ n) ∧
      (n ≤ (1024 : Nat))) ∧
     (xs.length = n) ∧
     (
      ((0 : Int) ≤ a) ∧
      (a < (↑n : Int))) ∧
     ((0 : Int) ≤ m) ∧
     (m ≤ (↑n : Int))) ∧
    (
     ((-9223372036854775808 : Int) ≤ v_4.snd.snd) ∧
     (v_4.snd.snd ≤ (9223372036854775807 : Int))) ∧
    ∀ (v_6 : Int),
    ∀ (e_7 : Int),
    (v_6 = atV n a m xs v_4.snd.snd) →
    (e_7 = atE m v_4.snd.snd) →
    ((-9223372036854775808 : Int) ≤ v_6 ∧ v_6 ≤ (9223372036854775807 : Int)) →
    (e_7 = (0 : Int) ∨ e_7 = (2 : Int)) →
    ∀ (n12 : Int),
    (n12 = IntKind.u64.wrap v_6) →
    ((0 : Int) ≤ n12 ∧ n12 ≤ (18446744073709551615 : Int)) →
    (
     ((0 : Int) ≤ v_4.snd.fst) ∧
     (v_4.snd.fst ≤ (18446744073709551615 : Int))) ∧
    (
     ((0 : Int) ≤ n12) ∧
     (n12 ≤ (18446744073709551615 : Int))) ∧
    (
     ((0 : Int) ≤ (0 : Int)) ∧
     ((0 : Int) ≤ (1 : Int))) ∧
    ∀ (s_15 : Int),
    ∀ (d_16 : Int),
    (s_15 = (v_4.snd.fst + n12 + (0 : Int)) % (18446744073709551616 : Int)) →
    (d_16 = (v_4.snd.fst + n12 + (0 : Int)) / (18446744073709551616 : Int)) →
    ((0 : Int) ≤ s_15 ∧ s_15 ≤ (18446744073709551615 : Int)) →
    ((0 : Int) ≤ d_16 ∧ d_16 ≤ (1 : Int)) →
    ((0 : Int) ≤ (63 : Int)) ∧
    ∀ (n21 : Int),
    (n21 = v_6.fdiv ((2 : Int) ^ min (Int.toNat (63 : Int)) IntKind.i64.bits)) →
    ((-9223372036854775808 : Int) ≤ n21 ∧ n21 ≤ (9223372036854775807 : Int)) →
    ∀ (n24 : Int),
    (n24 = IntKind.i64.wrap d_16) →
    ((-9223372036854775808 : Int) ≤ n24 ∧ n24 ≤ (9223372036854775807 : Int)) →
    ∀ (n27 : Int),
    (n27 = IntKind.i64.wrap (n21 + n24)) →
    ((-9223372036854775808 : Int) ≤ n27 ∧ n27 ≤ (9223372036854775807 : Int)) →
    ∀ (n30 : Int),
    (n30 = IntKind.i64.wrap (v_4.fst + n27)) →
    ((-9223372036854775808 : Int) ≤ n30 ∧ n30 ≤ (9223372036854775807 : Int)) →
    ∀ (n33 : Int),
    (n33 = IntKind.i64.wrap (v_4.snd.snd + (1 : Int))) →
    ((-9223372036854775808 : Int) ≤ n33 ∧ n33 ≤ (9223372036854775807 : Int)) →
    ∃ (v' : Int × Int × Int),
    (n30 = v'.fst) ∧
    (s_15 = v'.snd.fst) ∧
    (m = m) ∧
    (n33 = v'.snd.snd) ∧
    ((0 : Nat) = (0 : Nat)) ∧
    (n = n) ∧
    (a = a) ∧
    (m = m) ∧
    (xs = xs) ∧
    (
     (
      ((0 : Int) ≤ v'.snd.snd) ∧
      (v'.snd.snd ≤ m)) ∧
     (
      ((0 : Int) ≤ v'.snd.fst) ∧
      (v'.snd.fst ≤ (18446744073709551615 : Int))) ∧
     (v'.fst * (18446744073709551616 : Int) + v'.snd.fst = sumR n a xs v'.snd.snd.toNat) ∧
     ((-9223372036854775808 : Int) * v'.snd.snd ≤ v'.fst * (18446744073709551616 : Int) + v'.snd.fst) ∧
     (v'.fst * (18446744073709551616 : Int) + v'.snd.fst ≤ (9223372036854775808 : Int) * v'.snd.snd)) ∧
    ((m - v'.snd.snd).toNat < (m - v_4.snd.snd).toNat))
   (∀ (n36 : Int),
    (n36 = IntKind.i64.wrap v_4.snd.fst) →
    ((-9223372036854775808 : Int) ≤ n36 ∧ n36 ≤ (9223372036854775807 : Int)) →
    br (bif decide (v_4.fst > (0 : Int)) then true else bif v_4.fst == (0 : Int) then decide (n36 < (0 : Int)) else false)
     ((k (AV.tup [AV.int IntKind.i64 (4611686018427387904 : Int), AV.int IntKind.i64 (0 : Int)]) [some (Blk.cells [AV.row (1 : Nat) (1 : Nat) (0 : Nat) n, AV.int IntKind.i64 a, AV.int IntKind.i64 m]), some (Blk.row (1 : Nat) xs)] []))
     (br (bif decide (v_4.fst < (-1 : Int)) then true else bif v_4.fst == (-1 : Int) then decide (n36 ≥ (0 : Int)) else false)
       ((k (AV.tup [AV.int IntKind.i64 (-4611686018427387904 : Int), AV.int IntKind.i64 (0 : Int)]) [some (Blk.cells [AV.row (1 : Nat) (1 : Nat) (0 : Nat) n, AV.int IntKind.i64 a, AV.int IntKind.i64 m]), some (Blk.row (1 : Nat) xs)] []))
       (∀ (n39 : Int),
        (n39 = max n36 (-4611686018427387904 : Int)) →
        ((-9223372036854775808 : Int) ≤ n39 ∧ n39 ≤ (9223372036854775807 : Int)) →
        ∀ (n42 : Int),
        (n42 = min n39 (4611686018427387904 : Int)) →
        ((-9223372036854775808 : Int) ≤ n42 ∧ n42 ≤ (9223372036854775807 : Int)) →
        (k (AV.tup [AV.int IntKind.i64 n42, AV.int IntKind.i64 (0 : Int)]) [some (Blk.cells [AV.row (1 : Nat) (1 : Nat) (0 : Nat) n, AV.int IntKind.i64 a, AV.int IntKind.i64 m]), some (Blk.row (1 : Nat) xs)] [])))) := by
  refine ⟨?_, ?_⟩
  · -- left
    refine ⟨by first | omega | (dsimp only; omega), ?_⟩ -- (1 : Nat) ≤ n ∧ n ≤ (1024 : Nat)
    refine ⟨by first | omega | (dsimp only; omega), ?_⟩ -- xs.length = n
    refine ⟨by first | omega | (dsimp only; omega), ?_⟩ -- (0 : Int) ≤ a ∧ a < (↑n : Int)
    refine ⟨by first | omega | (dsimp only; omega), ?_⟩ -- (0 : Int) ≤ m
    exact by omega -- m ≤ (↑n : Int)
  intro n1
  intro q1 -- n1 = m
  intro ⟨l1, u1⟩ -- (-9223372036854775808 : Int) ≤ n1 ∧ n1 ≤ (9223372036854775807 : Int)
  refine ⟨?_, ?_⟩
  · -- left
    refine ⟨((0 : Int), (0 : Int), (0 : Int)), ?_⟩
    refine ⟨by first | with_reducible rfl | rfl, ?_⟩ -- (0 : Int) = (0 : Int)
    refine ⟨by first | with_reducible rfl | rfl, ?_⟩ -- (0 : Int) = (0 : Int)
    refine ⟨by show n1 = m; assumption, ?_⟩ -- n1 = m
    refine ⟨by first | with_reducible rfl | rfl, ?_⟩ -- (0 : Int) = (0 : Int)
    refine ⟨by first | with_reducible rfl | rfl, ?_⟩ -- (0 : Nat) = (0 : Nat)
    refine ⟨by first | with_reducible rfl | rfl, ?_⟩ -- n = n
    refine ⟨by first | with_reducible rfl | rfl, ?_⟩ -- a = a
    refine ⟨by first | with_reducible rfl | rfl, ?_⟩ -- m = m
    refine ⟨by first | with_reducible rfl | rfl, ?_⟩ -- xs = xs
    refine ⟨by first | omega | (dsimp only; omega), ?_⟩ -- (0 : Int) ≤ (0 : Int) ∧ (0 : Int) ≤ m
    refine ⟨by first | omega | (dsimp only; omega), ?_⟩ -- (0 : Int) ≤ (0 : Int) ∧ (0 : Int) ≤ (18446744073709551615 : Int)
    refine ⟨by rfl, ?_⟩ -- (0 : Int) * (18446744073709551616 : Int) + (0 : Int) = sumR n a xs (Int.toNat (0 : Int))
    refine ⟨by show (-9223372036854775808 : Int) * (0 : Int) ≤ (0 : Int) * (18446744073709551616 : Int) + (0 : Int); omega, ?_⟩ -- (-9223372036854775808 : Int) * (0 : Int) ≤ (0 : Int) * (18446744073709551616 : Int) + (0 : Int)
    exact by show (0 : Int) * (18446744073709551616 : Int) + (0 : Int) ≤ (9223372036854775808 : Int) * (0 : Int); omega -- (0 : Int) * (18446744073709551616 : Int) + (0 : Int) ≤ (9223372036854775808 : Int) * (0 : Int)
  intro v_4
  intro h1 -- ((0 : Int) ≤ v_4.snd.snd ∧ v_4.snd.snd ≤ m) ∧ ((0 : Int) ≤ v_4.snd.fst ∧ v_4.snd.fst ≤ (18446744073709551615 : Int)) ∧ v_4.fst * (18446744073709551616 : Int) + v_4.snd.fst = sumR n a xs v_4.snd.snd.toNat ∧ (-9223372036854775808 : Int) * v_4.snd.snd ≤ v_4.fst * (18446744073709551616 : Int) + v_4.snd.fst ∧ v_4.fst * (18446744073709551616 : Int) + v_4.snd.fst ≤ (9223372036854775808 : Int) * v_4.snd.snd
  refine brd (fun c2 => ?_) (fun c2 => ?_) -- decide (v_4.snd.snd < m)
  · -- yes
    refine ⟨?_, ?_⟩
    · -- left
      refine ⟨by first | omega | (dsimp only; omega), ?_⟩ -- (1 : Nat) ≤ n ∧ n ≤ (1024 : Nat)
      refine ⟨by first | omega | (dsimp only; omega), ?_⟩ -- xs.length = n
      refine ⟨by first | omega | (dsimp only; omega), ?_⟩ -- (0 : Int) ≤ a ∧ a < (↑n : Int)
      refine ⟨by first | omega | (dsimp only; omega), ?_⟩ -- (0 : Int) ≤ m
      exact by omega -- m ≤ (↑n : Int)
    refine ⟨by first | omega | (dsimp only; omega), ?_⟩ -- (-9223372036854775808 : Int) ≤ v_4.snd.snd ∧ v_4.snd.snd ≤ (9223372036854775807 : Int)
    intro v_6
    intro e_7
    intro h3 -- v_6 = atV n a m xs v_4.snd.snd
    intro h4 -- e_7 = atE m v_4.snd.snd
    intro ⟨a5, b5⟩ -- (-9223372036854775808 : Int) ≤ v_6 ∧ v_6 ≤ (9223372036854775807 : Int)
    intro h6 -- e_7 = (0 : Int) ∨ e_7 = (2 : Int)
    intro n12
    intro q12 -- n12 = IntKind.u64.wrap v_6
    rw [IntKind.wrap_u64] at q12
    intro ⟨l12, u12⟩ -- (0 : Int) ≤ n12 ∧ n12 ≤ (18446744073709551615 : Int)
    refine ⟨by first | omega | (dsimp only; omega), ?_⟩ -- (0 : Int) ≤ v_4.snd.fst ∧ v_4.snd.fst ≤ (18446744073709551615 : Int)
    refine ⟨by exact ⟨by assumption, by assumption⟩, ?_⟩ -- (0 : Int) ≤ n12 ∧ n12 ≤ (18446744073709551615 : Int)
    refine ⟨by first | omega | (dsimp only; omega), ?_⟩ -- (0 : Int) ≤ (0 : Int) ∧ (0 : Int) ≤ (1 : Int)
    intro s_15
    intro d_16
    intro h7 -- s_15 = (v_4.snd.fst + n12 + (0 : Int)) % (18446744073709551616 : Int)
    intro h8 -- d_16 = (v_4.snd.fst + n12 + (0 : Int)) / (18446744073709551616 : Int)
    intro ⟨a9, b9⟩ -- (0 : Int) ≤ s_15 ∧ s_15 ≤ (18446744073709551615 : Int)
    intro ⟨a10, b10⟩ -- (0 : Int) ≤ d_16 ∧ d_16 ≤ (1 : Int)
    refine ⟨by first | omega | (dsimp only; omega), ?_⟩ -- (0 : Int) ≤ (63 : Int)
    intro n21
    intro q21 -- n21 = v_6.fdiv ((2 : Int) ^ min (Int.toNat (63 : Int)) IntKind.i64.bits)
    rw [show (2 : Int) ^ min (Int.toNat (63 : Int)) IntKind.i64.bits = 9223372036854775808 from rfl, Int.fdiv_eq_ediv_of_nonneg _ (by decide)] at q21
    intro ⟨l21, u21⟩ -- (-9223372036854775808 : Int) ≤ n21 ∧ n21 ≤ (9223372036854775807 : Int)
    intro n24
    intro q24 -- n24 = IntKind.i64.wrap d_16
    rw [IntKind.wrap_i64] at q24
    intro ⟨l24, u24⟩ -- (-9223372036854775808 : Int) ≤ n24 ∧ n24 ≤ (9223372036854775807 : Int)
    intro n27
    intro q27 -- n27 = IntKind.i64.wrap (n21 + n24)
    rw [IntKind.wrap_i64] at q27
    intro ⟨l27, u27⟩ -- (-9223372036854775808 : Int) ≤ n27 ∧ n27 ≤ (9223372036854775807 : Int)
    intro n30
    intro q30 -- n30 = IntKind.i64.wrap (v_4.fst + n27)
    rw [IntKind.wrap_i64] at q30
    intro ⟨l30, u30⟩ -- (-9223372036854775808 : Int) ≤ n30 ∧ n30 ≤ (9223372036854775807 : Int)
    intro n33
    intro q33 -- n33 = IntKind.i64.wrap (v_4.snd.snd + (1 : Int))
    rw [IntKind.wrap_i64] at q33
    intro ⟨l33, u33⟩ -- (-9223372036854775808 : Int) ≤ n33 ∧ n33 ≤ (9223372036854775807 : Int)
    refine ⟨(n30, s_15, n33), ?_⟩
    refine ⟨by first | with_reducible rfl | rfl, ?_⟩ -- n30 = n30
    refine ⟨by first | with_reducible rfl | rfl, ?_⟩ -- s_15 = s_15
    refine ⟨by first | with_reducible rfl | rfl, ?_⟩ -- m = m
    refine ⟨by first | with_reducible rfl | rfl, ?_⟩ -- n33 = n33
    refine ⟨by first | with_reducible rfl | rfl, ?_⟩ -- (0 : Nat) = (0 : Nat)
    refine ⟨by first | with_reducible rfl | rfl, ?_⟩ -- n = n
    refine ⟨by first | with_reducible rfl | rfl, ?_⟩ -- a = a
    refine ⟨by first | with_reducible rfl | rfl, ?_⟩ -- m = m
    refine ⟨by first | with_reducible rfl | rfl, ?_⟩ -- xs = xs
    refine ⟨?_, ?_⟩
    · -- left
      refine ⟨by first | omega | (dsimp only; omega), ?_⟩ -- (0 : Int) ≤ n33 ∧ n33 ≤ m
      refine ⟨by exact ⟨by assumption, by assumption⟩, ?_⟩ -- (0 : Int) ≤ s_15 ∧ s_15 ≤ (18446744073709551615 : Int)
      have h11 : n30 * (18446744073709551616 : Int) + s_15 = sumR n a xs n33.toNat := by
        have e := sumR_next n a xs (i := v_4.snd.snd) (by omega)
        have hv : v_6 = rAt n a xs v_4.snd.snd := by rw [h3]; unfold atV; exact if_pos (by omega)
        rw [show n33 = v_4.snd.snd + 1 by omega, e, ← h1.2.2.1, ← hv]
        clear h3 h4 hv e
        have f12 : (0 ≤ v_6 ∧ n12 = v_6 ∧ n21 = 0) ∨ (v_6 < 0 ∧ n12 = v_6 + 18446744073709551616 ∧ n21 = -1) := by clear q24 q27 q30 q33 h7 h8; omega
        clear q12 q21
        have f24 : n24 = d_16 := by clear q27 q30 q33 h7 h8; omega
        clear q24
        have f27 : n27 = n21 + d_16 := by clear q30 q33 h7 h8; omega
        clear q27
        have hb := h1.2.2.2
        have hi1 : -1025 ≤ v_4.fst ∧ v_4.fst ≤ 1025 := by clear h7 h8 q30 q33 f12 f24 f27; omega
        have f30 : n30 = v_4.fst + n27 := by clear h7 h8 q33; omega
        clear q30 q33
        have fs : s_15 + 18446744073709551616 * d_16 = v_4.snd.fst + n12 := by omega
        clear h7 h8
        omega
      refine ⟨h11, ?_⟩
      have h12 : (-9223372036854775808 : Int) * n33 ≤ n30 * (18446744073709551616 : Int) + s_15 := by
        have e := sumR_next n a xs (i := v_4.snd.snd) (by omega)
        have hv : v_6 = rAt n a xs v_4.snd.snd := by rw [h3]; unfold atV; exact if_pos (by omega)
        rw [h11, show n33 = v_4.snd.snd + 1 by omega, e, ← h1.2.2.1, ← hv]
        have hb := h1.2.2.2
        clear h3 h4 hv e h11 h1 q12 q21 q24 q27 q30 q33 h7 h8
        (try dsimp only)
        omega
      refine ⟨h12, ?_⟩
      -- n30 * (18446744073709551616 : Int) + s_15 ≤ (9223372036854775808 : Int) * n33
      have e := sumR_next n a xs (i := v_4.snd.snd) (by omega)
      have hv : v_6 = rAt n a xs v_4.snd.snd := by rw [h3]; unfold atV; exact if_pos (by omega)
      rw [h11, show n33 = v_4.snd.snd + 1 by omega, e, ← h1.2.2.1, ← hv]
      have hb := h1.2.2.2
      clear h3 h4 hv e h11 h1 q12 q21 q24 q27 q30 q33 h7 h8
      (try dsimp only)
      omega
    exact by show (m - n33).toNat < (m - v_4.snd.snd).toNat; omega -- (m - n33).toNat < (m - v_4.snd.snd).toNat
  · -- no
    intro n36
    intro q36 -- n36 = IntKind.i64.wrap v_4.snd.fst
    rw [IntKind.wrap_i64] at q36
    intro ⟨l36, u36⟩ -- (-9223372036854775808 : Int) ≤ n36 ∧ n36 ≤ (9223372036854775807 : Int)
    refine br_intro (fun c13 => ?_) (fun c13 => ?_) -- bif decide (v_4.fst > (0 : Int)) then true else bif v_4.fst == (0 : Int) then decide (n36 < (0 : Int)) else false
    · -- yes
      simp at c13 -- (0 : Int) < v_4.fst ∨ v_4.fst = (0 : Int) ∧ n36 < (0 : Int)
      -- k (AV.tup [AV.int IntKind.i64 (4611686018427387904 : Int), AV.int IntKind.i64 (0 : Int)]) [some (Blk.cells [AV.row (1 : Nat) (1 : Nat) (0 : Nat) n, AV.int IntKind.i64 a, AV.int IntKind.i64 m]), some (Blk.row (1 : Nat) xs)] []
      have E := h1.2.2.1
      rw [show v_4.snd.snd = m by omega] at E
      exact hk _ (by rw [← E]; unfold clampS; omega) (by omega)
    · -- no
      simp at c13 -- v_4.fst ≤ (0 : Int) ∧ (v_4.fst = (0 : Int) → (0 : Int) ≤ n36)
      refine br_intro (fun c14 => ?_) (fun c14 => ?_) -- bif decide (v_4.fst < (-1 : Int)) then true else bif v_4.fst == (-1 : Int) then decide (n36 ≥ (0 : Int)) else false
      · -- yes
        simp at c14 -- v_4.fst < (-1 : Int) ∨ v_4.fst = (-1 : Int) ∧ (0 : Int) ≤ n36
        -- k (AV.tup [AV.int IntKind.i64 (-4611686018427387904 : Int), AV.int IntKind.i64 (0 : Int)]) [some (Blk.cells [AV.row (1 : Nat) (1 : Nat) (0 : Nat) n, AV.int IntKind.i64 a, AV.int IntKind.i64 m]), some (Blk.row (1 : Nat) xs)] []
        have E := h1.2.2.1
        rw [show v_4.snd.snd = m by omega] at E
        exact hk _ (by rw [← E]; unfold clampS; omega) (by omega)
      · -- no
        simp at c14 -- (-1 : Int) ≤ v_4.fst ∧ (v_4.fst = (-1 : Int) → n36 < (0 : Int))
        intro n39
        intro q39 -- n39 = max n36 (-4611686018427387904 : Int)
        intro ⟨l39, u39⟩ -- (-9223372036854775808 : Int) ≤ n39 ∧ n39 ≤ (9223372036854775807 : Int)
        intro n42
        intro q42 -- n42 = min n39 (4611686018427387904 : Int)
        intro ⟨l42, u42⟩ -- (-9223372036854775808 : Int) ≤ n42 ∧ n42 ≤ (9223372036854775807 : Int)
        -- k (AV.tup [AV.int IntKind.i64 n42, AV.int IntKind.i64 (0 : Int)]) [some (Blk.cells [AV.row (1 : Nat) (1 : Nat) (0 : Nat) n, AV.int IntKind.i64 a, AV.int IntKind.i64 m]), some (Blk.row (1 : Nat) xs)] []
        have E := h1.2.2.1
        rw [show v_4.snd.snd = m by omega] at E
        exact hk _ (by rw [← E]; unfold clampS; omega) (by omega)

theorem rsum_ok : Holds Try.prog 14 sumS := by
  refine fn_soundB (env := mkEnv T3) (tab_ok T3_ok) Try.func14 Try.call14 (fun args B k h => ?_) (by decide)
  unfold sumS at h
  dsimp only at h
  split at h
  · rename_i n a m xs
    exact ⟨by kernel_rfl, sumLoops n a m xs, fun _ _ => none, .cast (by kernel_rfl) (rsum_vc n a m xs h.1 k h.2)⟩
  · exact h.elim
set_option maxHeartbeats 2000000 in
theorem rnew_vc (n : Int) (n0 : (-9223372036854775808 : Int) ≤ n) (n1 : n ≤ (9223372036854775807 : Int)) (k : AV → List (Option Blk) → List Blk → Prop) (hk : ((1 : Int) ≤ n → n ≤ (1024 : Int) → ∀ (q : Nat) (xs : List Int), (↑q : Int) = n → xs = List.replicate q (0 : Int) → k (AV.tup [AV.ptr (0 : Nat) (0 : Nat), AV.int IntKind.i64 (0 : Int)]) [] [Blk.cells [AV.row (1 : Nat) (1 : Nat) (0 : Nat) q, AV.int IntKind.i64 (0 : Int), AV.int IntKind.i64 (0 : Int)], Blk.row (1 : Nat) xs]) ∧ (n < (1 : Int) ∨ (1024 : Int) < n → k (AV.tup [AV.nilptr, AV.int IntKind.i64 (2 : Int)]) [] [])) :
  br (bif decide (n < (1 : Int)) then true else decide (n > (1024 : Int)))
   ((k (AV.tup [AV.nilptr, AV.int IntKind.i64 (2 : Int)]) [] []))
   ((
     ((0 : Int) ≤ n) ∧
     (n ≤ n) ∧
     (n * (↑(8 : Nat) : Int) ≤ (140737488355328 : Int))) ∧
    (k (AV.tup [AV.ptr (0 : Nat) (0 : Nat), AV.int IntKind.i64 (0 : Int)]) [] [Blk.cells [AV.row (1 : Nat) (1 : Nat) (0 : Nat) n.toNat, AV.int IntKind.i64 (0 : Int), AV.int IntKind.i64 (0 : Int)], Blk.row (1 : Nat) (List.replicate n.toNat (0 : Int))])) := by
  refine br_intro (fun c1 => ?_) (fun c1 => ?_) -- bif decide (n < (1 : Int)) then true else decide (n > (1024 : Int))
  · -- yes
    simp at c1 -- n < (1 : Int) ∨ (1024 : Int) < n
    -- k (AV.tup [AV.nilptr, AV.int IntKind.i64 (2 : Int)]) [] []
    exact hk.2 (by omega)
  · -- no
    simp at c1 -- (1 : Int) ≤ n ∧ n ≤ (1024 : Int)
    refine ⟨?_, ?_⟩
    · -- left
      refine ⟨by first | omega | (dsimp only; omega), ?_⟩ -- (0 : Int) ≤ n
      refine ⟨by first | omega | (dsimp only; omega), ?_⟩ -- n ≤ n
      exact by omega -- n * (↑(8 : Nat) : Int) ≤ (140737488355328 : Int)
    -- k (AV.tup [AV.ptr (0 : Nat) (0 : Nat), AV.int IntKind.i64 (0 : Int)]) [] [Blk.cells [AV.row (1 : Nat) (1 : Nat) (0 : Nat) n.toNat, AV.int IntKind.i64 (0 : Int), AV.int IntKind.i64 (0 : Int)], Blk.row (1 : Nat) (List.replicate n.toNat (0 : Int))]
    exact hk.1 (by omega) (by omega) _ _ (by omega) rfl

theorem rnew_ok : Holds Try.prog 7 newS := by
  refine fn_sound (env := mkEnv T0) (tab_ok T0_ok) Try.func7 Try.call7 fun args k h => ?_
  match args, h with
  | [.int .i64 n], h => exact ⟨by kernel_rfl, fun _ _ => none, fun _ _ => none, .cast (by kernel_rfl) (rnew_vc n h.1.1 h.1.2 k h.2)⟩
end Go.Proofs.Ytcnnbofjgmohaaa

