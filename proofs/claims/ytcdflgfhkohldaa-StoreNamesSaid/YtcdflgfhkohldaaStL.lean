import Derived.Test.YtcdflgfhkohldaaStK
namespace Go.Proofs.Ytcdflgfhkohldaa
open Go Go.Eng Go.Rw Go.Lk Go.Proofs
open Go.Bk hiding take_step drop_step set_mid
open Go.St hiding take_step
set_option linter.unusedVariables false
set_option maxHeartbeats 2000000 in
theorem one_vc (m : Int) (b : List UInt8) (bad : Bool) (hm : (0 : Int) ≤ m ∧ m ≤ (9223372036854775807 : Int)) (hb : b.length ≤ (1000000 : Nat)) (k : AV → List (Option Blk) → List Blk → Prop) (hk : ∀ (v : Int) (r : List UInt8) (bd : Bool), v = oneV m b → r = oneR m b → bd = (bad || oneB m b) → (0 : Int) ≤ v ∧ v ≤ m → r.length ≤ b.length → k (AV.int IntKind.i64 v) [some (Blk.cells [AV.sl (0 : Nat) r, AV.bool bd, AV.int IntKind.i64 (0 : Int), AV.nilsl, AV.nilsl, AV.nilsl, AV.nilsl, AV.nilsl, AV.int IntKind.i64 (0 : Int), AV.int IntKind.i64 (0 : Int), AV.int IntKind.i64 (0 : Int), AV.int IntKind.i64 (0 : Int), AV.int IntKind.i64 (0 : Int), AV.nilsl])] []) :
 (b.length ≤ (1000000 : Nat)) ∧
 ∀ (a_1 : Int),
 ∀ (b_2 : Int),
 ∀ (c_3 : Int),
 (a_1 = (↑(readG (0 : Nat) (0 : Nat) b).fst : Int)) →
 (b_2 = (↑(readG (0 : Nat) (0 : Nat) b).snd.fst : Int)) →
 (c_3 = (↑(readG (0 : Nat) (0 : Nat) b).snd.snd : Int)) →
 ((0 : Int) ≤ a_1 ∧ a_1 ≤ (18446744073709551615 : Int)) →
 ((0 : Int) ≤ b_2 ∧ b_2 ≤ (10 : Int)) →
 (c_3 = (0 : Int) ∨ c_3 = (8 : Int)) →
 ∀ (n10 : Int),
 (n10 = IntKind.u64.wrap m) →
 br (bif c_3 != (0 : Int) then true else decide (a_1 > n10))
 ((k (AV.int IntKind.i64 (0 : Int)) [some (Blk.cells [AV.sl (0 : Nat) b, AV.bool true, AV.int IntKind.i64 (0 : Int), AV.nilsl, AV.nilsl, AV.nilsl, AV.nilsl, AV.nilsl, AV.int IntKind.i64 (0 : Int), AV.int IntKind.i64 (0 : Int), AV.int IntKind.i64 (0 : Int), AV.int IntKind.i64 (0 : Int), AV.int IntKind.i64 (0 : Int), AV.nilsl])] []))
 (((0 : Int) ≤ b_2) ∧
  (b_2 ≤ (↑b.length : Int)) ∧
  ∀ (n12 : Int),
  (n12 = IntKind.i64.wrap a_1) →
  ((-9223372036854775808 : Int) ≤ n12 ∧ n12 ≤ (9223372036854775807 : Int)) →
  (k (AV.int IntKind.i64 n12) [some (Blk.cells [AV.sl (0 : Nat) (List.drop b_2.toNat b), AV.bool bad, AV.int IntKind.i64 (0 : Int), AV.nilsl, AV.nilsl, AV.nilsl, AV.nilsl, AV.nilsl, AV.int IntKind.i64 (0 : Int), AV.int IntKind.i64 (0 : Int), AV.int IntKind.i64 (0 : Int), AV.int IntKind.i64 (0 : Int), AV.int IntKind.i64 (0 : Int), AV.nilsl])] [])) := by
 refine ⟨by assumption, ?_⟩
 intro a_1
 intro b_2
 intro c_3
 intro h1
 intro h2
 intro h3
 intro ⟨a4, b4⟩
 intro ⟨a5, b5⟩
 intro h6
 intro n10
 intro q10
 rw [IntKind.wrap_u64] at q10
 refine br_intro (fun c7 => ?_) (fun c7 => ?_)
 ·
  simp at c7
  have C : ¬ ((readG 0 0 b).2.2 = 0 ∧ ((readG 0 0 b).1 : Int) ≤ m) := by omega
  exact hk 0 b true (by unfold oneV; rw [if_neg C]) (by unfold oneR; rw [if_neg C]) (by unfold oneB; rw [if_neg C]; simp) ⟨by omega, by omega⟩ (Nat.le_refl _)
 ·
  simp at c7
  refine ⟨by assumption, ?_⟩
  have h8 : b_2 ≤ (↑b.length : Int) := by
   rcases read_only b with R | ⟨m', j, R, r1, r2, r3, r4⟩ <;> rw [R] at h2 h3 <;> dsimp only at h2 h3 <;> omega
  refine ⟨h8, ?_⟩
  intro n12
  intro q12
  rw [IntKind.wrap_i64] at q12
  intro ⟨l12, u12⟩
  have C : (readG 0 0 b).2.2 = 0 ∧ ((readG 0 0 b).1 : Int) ≤ m := by omega
  exact hk n12 _ bad (by unfold oneV; rw [if_pos C]; omega) (by unfold oneR; rw [if_pos C]; congr 1; omega) (by unfold oneB; rw [if_pos C]; simp) ⟨by omega, by omega⟩ (by rw [List.length_drop]; omega)

theorem one_ok : Holds Try.prog 83 oneS := by
  refine fn_soundB (env := mkEnv M1) (tab_ok M1_ok) Try.func83 Try.call83 (fun args B k h => ?_) (by decide)
  unfold oneS at h
  dsimp only at h
  split at h
  · rename_i m b bad
    exact ⟨by kernel_rfl, fun _ _ => none, fun _ _ => none, .cast (by kernel_rfl) (one_vc m b bad h.1 h.2.1 k h.2.2)⟩
  · exact h.elim
theorem K1_ok : TabOk Try.prog K1 := ⟨one_ok, trivial⟩
set_option maxHeartbeats 2000000 in
theorem times_vc (n : Int) (b : List UInt8) (bad : Bool) (hn : (0 : Int) ≤ n ∧ n ≤ (8 : Int)) (hb : b.length ≤ (1000000 : Nat)) (k : AV → List (Option Blk) → List Blk → Prop) (hk : ∀ (ks : List Int) (q : Nat) (r : List UInt8) (bd : Bool), TIn b bad n.toNat n.toNat bd r ks → ks.length = q → q = n.toNat → r.length ≤ b.length → k (AV.row (1 : Nat) (1 : Nat) (0 : Nat) q) [some (Blk.cells [AV.sl (0 : Nat) r, AV.bool bd, AV.int IntKind.i64 (0 : Int), AV.nilsl, AV.nilsl, AV.nilsl, AV.nilsl, AV.nilsl, AV.int IntKind.i64 (0 : Int), AV.int IntKind.i64 (0 : Int), AV.int IntKind.i64 (0 : Int), AV.int IntKind.i64 (0 : Int), AV.int IntKind.i64 (0 : Int), AV.nilsl])] [Blk.row (1 : Nat) ks]) :
 (
 ∃ (v : Nat × Bool × List UInt8 × List Int),
 ((0 : Nat) = (0 : Nat)) ∧
 ((0 : Nat) = v.fst) ∧
 (n = n) ∧
 ((0 : Int) = (↑v.fst : Int)) ∧
 (b = v.snd.snd.fst) ∧
 (bad = v.snd.fst) ∧
 ((0 : Int) = (0 : Int)) ∧
 ((0 : Int) = (0 : Int)) ∧
 ((0 : Int) = (0 : Int)) ∧
 ((0 : Int) = (0 : Int)) ∧
 ((0 : Int) = (0 : Int)) ∧
 ((0 : Int) = (0 : Int)) ∧
 ([] = v.snd.snd.snd) ∧
 (v.fst ≤ n.toNat) ∧
 (
  ((0 : Int) ≤ n) ∧
  (n ≤ (8 : Int))) ∧
 (b.length ≤ (1000000 : Nat)) ∧
 (v.snd.snd.fst.length ≤ b.length) ∧
 (v.snd.snd.snd.length = v.fst) ∧
 (TIn b bad n.toNat v.fst v.snd.fst v.snd.snd.fst v.snd.snd.snd)) ∧
 ∀ (v_1 : Nat × Bool × List UInt8 × List Int),
 (v_1.fst ≤ n.toNat ∧ ((0 : Int) ≤ n ∧ n ≤ (8 : Int)) ∧ b.length ≤ (1000000 : Nat) ∧ v_1.snd.snd.fst.length ≤ b.length ∧ v_1.snd.snd.snd.length = v_1.fst ∧ TIn b bad n.toNat v_1.fst v_1.snd.fst v_1.snd.snd.fst v_1.snd.snd.snd) →
 br (decide ((↑v_1.fst : Int) < n))
 ((
  ((0 : Int) ≤ (1048576 : Int)) ∧
  ((1048576 : Int) ≤ (9223372036854775807 : Int))) ∧
  (v_1.snd.snd.fst.length ≤ (1000000 : Nat)) ∧
  ∀ (v_3 : Int),
  ∀ (r_4 : List UInt8),
  ∀ (bd_5 : Bool),
  (v_3 = oneV (1048576 : Int) v_1.snd.snd.fst) →
  (r_4 = oneR (1048576 : Int) v_1.snd.snd.fst) →
  (bd_5 = (v_1.snd.fst || oneB (1048576 : Int) v_1.snd.snd.fst)) →
  ((0 : Int) ≤ v_3 ∧ v_3 ≤ (1048576 : Int)) →
  (r_4.length ≤ v_1.snd.snd.fst.length) →
  ((v_1.fst + (1 : Nat)) * (8 : Nat) ≤ (140737488355328 : Nat)) ∧
  ∀ (z11 : List Int),
  (z11 = List.take v_1.fst v_1.snd.snd.snd ++ List.take (1 : Nat) (List.drop (0 : Nat) [v_3])) →
  ∀ (n13 : Int),
  (n13 = IntKind.i64.wrap ((↑v_1.fst : Int) + (1 : Int))) →
  ((-9223372036854775808 : Int) ≤ n13 ∧ n13 ≤ (9223372036854775807 : Int)) →
  ∃ (v' : Nat × Bool × List UInt8 × List Int),
  ((0 : Nat) = (0 : Nat)) ∧
  (v_1.fst + (1 : Nat) = v'.fst) ∧
  (n = n) ∧
  (n13 = (↑v'.fst : Int)) ∧
  (r_4 = v'.snd.snd.fst) ∧
  (bd_5 = v'.snd.fst) ∧
  ((0 : Int) = (0 : Int)) ∧
  ((0 : Int) = (0 : Int)) ∧
  ((0 : Int) = (0 : Int)) ∧
  ((0 : Int) = (0 : Int)) ∧
  ((0 : Int) = (0 : Int)) ∧
  ((0 : Int) = (0 : Int)) ∧
  (z11 = v'.snd.snd.snd) ∧
  (
  (v'.fst ≤ n.toNat) ∧
  (
   ((0 : Int) ≤ n) ∧
   (n ≤ (8 : Int))) ∧
  (b.length ≤ (1000000 : Nat)) ∧
  (v'.snd.snd.fst.length ≤ b.length) ∧
  (v'.snd.snd.snd.length = v'.fst) ∧
  (TIn b bad n.toNat v'.fst v'.snd.fst v'.snd.snd.fst v'.snd.snd.snd)) ∧
  (n.toNat - v'.fst < n.toNat - v_1.fst))
 ((k (AV.row (1 : Nat) (1 : Nat) (0 : Nat) v_1.fst) [some (Blk.cells [AV.sl (0 : Nat) v_1.snd.snd.fst, AV.bool v_1.snd.fst, AV.int IntKind.i64 (0 : Int), AV.nilsl, AV.nilsl, AV.nilsl, AV.nilsl, AV.nilsl, AV.int IntKind.i64 (0 : Int), AV.int IntKind.i64 (0 : Int), AV.int IntKind.i64 (0 : Int), AV.int IntKind.i64 (0 : Int), AV.int IntKind.i64 (0 : Int), AV.nilsl])] [Blk.row (1 : Nat) v_1.snd.snd.snd])) := by
 refine ⟨?_, ?_⟩
 ·
  refine ⟨((0 : Nat), bad, b, []), ?_⟩
  refine ⟨by first | with_reducible rfl | rfl, ?_⟩
  refine ⟨by first | with_reducible rfl | rfl, ?_⟩
  refine ⟨by first | with_reducible rfl | rfl, ?_⟩
  refine ⟨by show (0 : Int) = (↑(0 : Nat) : Int); omega, ?_⟩
  refine ⟨by first | with_reducible rfl | rfl, ?_⟩
  refine ⟨by first | with_reducible rfl | rfl, ?_⟩
  refine ⟨by first | with_reducible rfl | rfl, ?_⟩
  refine ⟨by first | with_reducible rfl | rfl, ?_⟩
  refine ⟨by first | with_reducible rfl | rfl, ?_⟩
  refine ⟨by first | with_reducible rfl | rfl, ?_⟩
  refine ⟨by first | with_reducible rfl | rfl, ?_⟩
  refine ⟨by first | with_reducible rfl | rfl, ?_⟩
  refine ⟨by first | with_reducible rfl | rfl, ?_⟩
  refine ⟨by show (0 : Nat) ≤ n.toNat; omega, ?_⟩
  refine ⟨by first | omega | (dsimp only; omega), ?_⟩
  refine ⟨by show b.length ≤ (1000000 : Nat); assumption, ?_⟩
  refine ⟨by show b.length ≤ b.length; omega, ?_⟩
  refine ⟨by first | with_reducible rfl | rfl, ?_⟩
  exact tin_0 _ _ _
 intro v_1
 intro h1
 refine brd (fun c2 => ?_) (fun c2 => ?_)
 ·
  refine ⟨by first | omega | (dsimp only; omega), ?_⟩
  refine ⟨by first | omega | (dsimp only; omega), ?_⟩
  intro v_3
  intro r_4
  intro bd_5
  intro h3
  intro h4
  intro h5
  intro ⟨a6, b6⟩
  intro h7
  refine ⟨by first | omega | (dsimp only; omega), ?_⟩
  intro z11
  intro qz11
  intro n13
  intro q13
  rw [IntKind.wrap_i64] at q13
  intro ⟨l13, u13⟩
  refine ⟨(v_1.fst + (1 : Nat), bd_5, r_4, z11), ?_⟩
  refine ⟨by first | with_reducible rfl | rfl, ?_⟩
  refine ⟨by first | with_reducible rfl | rfl, ?_⟩
  refine ⟨by first | with_reducible rfl | rfl, ?_⟩
  refine ⟨by show n13 = (↑(v_1.fst + (1 : Nat)) : Int); omega, ?_⟩
  refine ⟨by first | with_reducible rfl | rfl, ?_⟩
  refine ⟨by first | with_reducible rfl | rfl, ?_⟩
  refine ⟨by first | with_reducible rfl | rfl, ?_⟩
  refine ⟨by first | with_reducible rfl | rfl, ?_⟩
  refine ⟨by first | with_reducible rfl | rfl, ?_⟩
  refine ⟨by first | with_reducible rfl | rfl, ?_⟩
  refine ⟨by first | with_reducible rfl | rfl, ?_⟩
  refine ⟨by first | with_reducible rfl | rfl, ?_⟩
  refine ⟨by first | with_reducible rfl | rfl, ?_⟩
  refine ⟨?_, ?_⟩
  ·
   refine ⟨by show v_1.fst + (1 : Nat) ≤ n.toNat; omega, ?_⟩
   refine ⟨by first | omega | (dsimp only; omega), ?_⟩
   refine ⟨by show b.length ≤ (1000000 : Nat); assumption, ?_⟩
   refine ⟨by show r_4.length ≤ b.length; omega, ?_⟩
   have h8 : z11.length = v_1.fst + (1 : Nat) := by
    exact (z_app qz11 h1.2.2.2.2.1).2
   refine ⟨h8, ?_⟩
   exact tin_step h1.2.2.2.2.2 (by omega) h3 h4 h5 (z_app qz11 h1.2.2.2.2.1).1
  exact by show n.toNat - (v_1.fst + (1 : Nat)) < n.toNat - v_1.fst; omega
 ·
  have e : v_1.fst = n.toNat := by omega
  have t := h1.2.2.2.2.2
  rw [e] at t
  exact hk _ _ _ _ t h1.2.2.2.2.1 e h1.2.2.2.1

theorem times_ok : Holds Try.prog 84 timesS := by
  refine fn_soundB (env := mkEnv K1) (tab_ok K1_ok) Try.func84 Try.call84 (fun args B k h => ?_) (by decide)
  unfold timesS at h
  dsimp only at h
  split at h
  · rename_i n b bad
    exact ⟨by kernel_rfl, timesLoops n b bad, fun _ _ => none, .cast (by kernel_rfl) (times_vc n b bad h.1 h.2.1 k h.2.2)⟩
  · exact h.elim
theorem K2_ok : TabOk Try.prog K2 := ⟨one_ok, times_ok, trivial⟩
set_option maxHeartbeats 2000000 in
theorem plans_vc (b : List UInt8) (hb : b.length ≤ (1000000 : Nat)) (k : AV → List (Option Blk) → List Blk → Prop) (hk : ∀ (l : List Plan) (q : Nat) (r : List UInt8) (bd : Bool), PIn b (oneV (8 : Int) b).toNat bd r l → l.length = q → q ≤ (8 : Nat) → r.length ≤ b.length → k (AV.row (10 : Nat) (1 : Nat) (0 : Nat) q) [some (Blk.cells [AV.sl (0 : Nat) r, AV.bool bd, AV.int IntKind.i64 (0 : Int), AV.nilsl, AV.nilsl, AV.nilsl, AV.nilsl, AV.nilsl, AV.int IntKind.i64 (0 : Int), AV.int IntKind.i64 (0 : Int), AV.int IntKind.i64 (0 : Int), AV.int IntKind.i64 (0 : Int), AV.int IntKind.i64 (0 : Int), AV.nilsl])] [Blk.row (10 : Nat) l]) :
 (
 ((0 : Int) ≤ (8 : Int)) ∧
 ((8 : Int) ≤ (9223372036854775807 : Int))) ∧
 (b.length ≤ (1000000 : Nat)) ∧
 ∀ (v_1 : Int),
 ∀ (r_2 : List UInt8),
 ∀ (bd_3 : Bool),
 (v_1 = oneV (8 : Int) b) →
 (r_2 = oneR (8 : Int) b) →
 (bd_3 = (false || oneB (8 : Int) b)) →
 ((0 : Int) ≤ v_1 ∧ v_1 ≤ (8 : Int)) →
 (r_2.length ≤ b.length) →
 (
 ∃ (v : Nat × Bool × List UInt8 × List Plan),
 ((0 : Nat) = (0 : Nat)) ∧
 ((0 : Nat) = v.fst) ∧
 (v_1 = oneV (8 : Int) b) ∧
 ((0 : Int) = (↑v.fst : Int)) ∧
 (r_2 = v.snd.snd.fst) ∧
 (bd_3 = v.snd.fst) ∧
 ((0 : Int) = (0 : Int)) ∧
 ((0 : Int) = (0 : Int)) ∧
 ((0 : Int) = (0 : Int)) ∧
 ((0 : Int) = (0 : Int)) ∧
 ((0 : Int) = (0 : Int)) ∧
 ((0 : Int) = (0 : Int)) ∧
 ([] = v.snd.snd.snd) ∧
 (v.fst ≤ (oneV (8 : Int) b).toNat) ∧
 (
  ((0 : Int) ≤ oneV (8 : Int) b) ∧
  (oneV (8 : Int) b ≤ (8 : Int))) ∧
 (b.length ≤ (1000000 : Nat)) ∧
 (v.snd.snd.fst.length ≤ b.length) ∧
 (v.snd.snd.snd.length = v.fst) ∧
 (PIn b v.fst v.snd.fst v.snd.snd.fst v.snd.snd.snd)) ∧
 ∀ (v_9 : Nat × Bool × List UInt8 × List Plan),
 (v_9.fst ≤ (oneV (8 : Int) b).toNat ∧ ((0 : Int) ≤ oneV (8 : Int) b ∧ oneV (8 : Int) b ≤ (8 : Int)) ∧ b.length ≤ (1000000 : Nat) ∧ v_9.snd.snd.fst.length ≤ b.length ∧ v_9.snd.snd.snd.length = v_9.fst ∧ PIn b v_9.fst v_9.snd.fst v_9.snd.snd.fst v_9.snd.snd.snd) →
 br (decide ((↑v_9.fst : Int) < oneV (8 : Int) b))
 ((
  (
   (
   ((0 : Int) ≤ (1048576 : Int)) ∧
   ((1048576 : Int) ≤ (9223372036854775807 : Int))) ∧
   (v_9.snd.snd.fst.length ≤ (1000000 : Nat)) ∧
   ∀ (v_11 : Int),
   ∀ (r_12 : List UInt8),
   ∀ (bd_13 : Bool),
   (v_11 = oneV (1048576 : Int) v_9.snd.snd.fst) →
   (r_12 = oneR (1048576 : Int) v_9.snd.snd.fst) →
   (bd_13 = (v_9.snd.fst || oneB (1048576 : Int) v_9.snd.snd.fst)) →
   ((0 : Int) ≤ v_11 ∧ v_11 ≤ (1048576 : Int)) →
   (r_12.length ≤ v_9.snd.snd.fst.length) →
   (
   (
    ((0 : Int) ≤ (1048576 : Int)) ∧
    ((1048576 : Int) ≤ (9223372036854775807 : Int))) ∧
   (r_12.length ≤ (1000000 : Nat)) ∧
   ∀ (v_19 : Int),
   ∀ (r_20 : List UInt8),
   ∀ (bd_21 : Bool),
   (v_19 = oneV (1048576 : Int) r_12) →
   (r_20 = oneR (1048576 : Int) r_12) →
   (bd_21 = (bd_13 || oneB (1048576 : Int) r_12)) →
   ((0 : Int) ≤ v_19 ∧ v_19 ≤ (1048576 : Int)) →
   (r_20.length ≤ r_12.length) →
   ∃ (v : Bool × List UInt8 × List Plan × Int × Int),
   ((0 : Nat) = (0 : Nat)) ∧
   (v_9.fst = v_9.fst) ∧
   (oneV (8 : Int) b = oneV (8 : Int) b) ∧
   ((↑v_9.fst : Int) = (↑v_9.fst : Int)) ∧
   (r_20 = v.snd.fst) ∧
   (bd_21 = v.fst) ∧
   ((0 : Int) = (0 : Int)) ∧
   ((0 : Int) = (0 : Int)) ∧
   ((0 : Int) = (0 : Int)) ∧
   ((0 : Int) = (0 : Int)) ∧
   ((0 : Int) = (0 : Int)) ∧
   ((0 : Int) = (0 : Int)) ∧
   (v_9.snd.snd.snd = v.snd.snd.fst) ∧
   (v_11 = v.snd.snd.snd.fst) ∧
   (v_19 = v.snd.snd.snd.snd) ∧
   (v_9.fst < (oneV (8 : Int) b).toNat) ∧
   (
    ((0 : Int) ≤ oneV (8 : Int) b) ∧
    (oneV (8 : Int) b ≤ (8 : Int))) ∧
   (b.length ≤ (1000000 : Nat)) ∧
   (v.snd.fst.length ≤ b.length) ∧
   (v.snd.snd.fst.length = v_9.fst) ∧
   (
    ((0 : Int) ≤ v.snd.snd.snd.fst) ∧
    (v.snd.snd.snd.fst ≤ (1048576 : Int))) ∧
   (
    ((0 : Int) ≤ v.snd.snd.snd.snd) ∧
    (v.snd.snd.snd.snd ≤ (1048576 : Int))) ∧
   (PA b v_9.fst v.snd.snd.snd.fst v.snd.snd.snd.snd v.snd.fst v.fst v.snd.snd.fst)) ∧
   (
   ((0 : Int) ≤ (1048576 : Int)) ∧
   ((1048576 : Int) ≤ (9223372036854775807 : Int))) ∧
   (r_12.length ≤ (1000000 : Nat)) ∧
   ∀ (v_27 : Int),
   ∀ (r_28 : List UInt8),
   ∀ (bd_29 : Bool),
   (v_27 = oneV (1048576 : Int) r_12) →
   (r_28 = oneR (1048576 : Int) r_12) →
   (bd_29 = (bd_13 || oneB (1048576 : Int) r_12)) →
   ((0 : Int) ≤ v_27 ∧ v_27 ≤ (1048576 : Int)) →
   (r_28.length ≤ r_12.length) →
   ∃ (v : Bool × List UInt8 × List Plan × Int × Int),
   ((0 : Nat) = (0 : Nat)) ∧
   (v_9.fst = v_9.fst) ∧
   (oneV (8 : Int) b = oneV (8 : Int) b) ∧
   ((↑v_9.fst : Int) = (↑v_9.fst : Int)) ∧
   (r_28 = v.snd.fst) ∧
   (bd_29 = v.fst) ∧
   ((0 : Int) = (0 : Int)) ∧
   ((0 : Int) = (0 : Int)) ∧
   ((0 : Int) = (0 : Int)) ∧
   ((0 : Int) = (0 : Int)) ∧
   ((0 : Int) = (0 : Int)) ∧
   ((0 : Int) = (0 : Int)) ∧
   (v_9.snd.snd.snd = v.snd.snd.fst) ∧
   (v_11 = v.snd.snd.snd.fst) ∧
   (v_27 = v.snd.snd.snd.snd) ∧
   (v_9.fst < (oneV (8 : Int) b).toNat) ∧
   (
   ((0 : Int) ≤ oneV (8 : Int) b) ∧
   (oneV (8 : Int) b ≤ (8 : Int))) ∧
   (b.length ≤ (1000000 : Nat)) ∧
   (v.snd.fst.length ≤ b.length) ∧
   (v.snd.snd.fst.length = v_9.fst) ∧
   (
   ((0 : Int) ≤ v.snd.snd.snd.fst) ∧
   (v.snd.snd.snd.fst ≤ (1048576 : Int))) ∧
   (
   ((0 : Int) ≤ v.snd.snd.snd.snd) ∧
   (v.snd.snd.snd.snd ≤ (1048576 : Int))) ∧
   (PA b v_9.fst v.snd.snd.snd.fst v.snd.snd.snd.snd v.snd.fst v.fst v.snd.snd.fst)) ∧
  (
   (
   (
    ((0 : Int) ≤ (1048576 : Int)) ∧
    ((1048576 : Int) ≤ (9223372036854775807 : Int))) ∧
   (v_9.snd.snd.fst.length ≤ (1000000 : Nat)) ∧
   ∀ (v_35 : Int),
   ∀ (r_36 : List UInt8),
   ∀ (bd_37 : Bool),
   (v_35 = oneV (1048576 : Int) v_9.snd.snd.fst) →
   (r_36 = oneR (1048576 : Int) v_9.snd.snd.fst) →
   (bd_37 = (v_9.snd.fst || oneB (1048576 : Int) v_9.snd.snd.fst)) →
   ((0 : Int) ≤ v_35 ∧ v_35 ≤ (1048576 : Int)) →
   (r_36.length ≤ v_9.snd.snd.fst.length) →
   (
    (
    ((0 : Int) ≤ (1048576 : Int)) ∧
    ((1048576 : Int) ≤ (9223372036854775807 : Int))) ∧
    (r_36.length ≤ (1000000 : Nat)) ∧
    ∀ (v_43 : Int),
    ∀ (r_44 : List UInt8),
    ∀ (bd_45 : Bool),
    (v_43 = oneV (1048576 : Int) r_36) →
    (r_44 = oneR (1048576 : Int) r_36) →
    (bd_45 = (bd_37 || oneB (1048576 : Int) r_36)) →
    ((0 : Int) ≤ v_43 ∧ v_43 ≤ (1048576 : Int)) →
    (r_44.length ≤ r_36.length) →
    ∃ (v : Bool × List UInt8 × List Plan × Int × Int),
    ((0 : Nat) = (0 : Nat)) ∧
    (v_9.fst = v_9.fst) ∧
    (oneV (8 : Int) b = oneV (8 : Int) b) ∧
    ((↑v_9.fst : Int) = (↑v_9.fst : Int)) ∧
    (r_44 = v.snd.fst) ∧
    (bd_45 = v.fst) ∧
    ((0 : Int) = (0 : Int)) ∧
    ((0 : Int) = (0 : Int)) ∧
    ((0 : Int) = (0 : Int)) ∧
    ((0 : Int) = (0 : Int)) ∧
    ((0 : Int) = (0 : Int)) ∧
    ((0 : Int) = (0 : Int)) ∧
    (v_9.snd.snd.snd = v.snd.snd.fst) ∧
    (v_35 = v.snd.snd.snd.fst) ∧
    (v_43 = v.snd.snd.snd.snd) ∧
    (v_9.fst < (oneV (8 : Int) b).toNat) ∧
    (
    ((0 : Int) ≤ oneV (8 : Int) b) ∧
    (oneV (8 : Int) b ≤ (8 : Int))) ∧
    (b.length ≤ (1000000 : Nat)) ∧
    (v.snd.fst.length ≤ b.length) ∧
    (v.snd.snd.fst.length = v_9.fst) ∧
    (
    ((0 : Int) ≤ v.snd.snd.snd.fst) ∧
    (v.snd.snd.snd.fst ≤ (1048576 : Int))) ∧
    (
    ((0 : Int) ≤ v.snd.snd.snd.snd) ∧
    (v.snd.snd.snd.snd ≤ (1048576 : Int))) ∧
    (PA b v_9.fst v.snd.snd.snd.fst v.snd.snd.snd.snd v.snd.fst v.fst v.snd.snd.fst)) ∧
   (
    ((0 : Int) ≤ (1048576 : Int)) ∧
    ((1048576 : Int) ≤ (9223372036854775807 : Int))) ∧
   (r_36.length ≤ (1000000 : Nat)) ∧
   ∀ (v_51 : Int),
   ∀ (r_52 : List UInt8),
   ∀ (bd_53 : Bool),
   (v_51 = oneV (1048576 : Int) r_36) →
   (r_52 = oneR (1048576 : Int) r_36) →
   (bd_53 = (bd_37 || oneB (1048576 : Int) r_36)) →
   ((0 : Int) ≤ v_51 ∧ v_51 ≤ (1048576 : Int)) →
   (r_52.length ≤ r_36.length) →
   ∃ (v : Bool × List UInt8 × List Plan × Int × Int),
   ((0 : Nat) = (0 : Nat)) ∧
   (v_9.fst = v_9.fst) ∧
   (oneV (8 : Int) b = oneV (8 : Int) b) ∧
   ((↑v_9.fst : Int) = (↑v_9.fst : Int)) ∧
   (r_52 = v.snd.fst) ∧
   (bd_53 = v.fst) ∧
   ((0 : Int) = (0 : Int)) ∧
   ((0 : Int) = (0 : Int)) ∧
   ((0 : Int) = (0 : Int)) ∧
   ((0 : Int) = (0 : Int)) ∧
   ((0 : Int) = (0 : Int)) ∧
   ((0 : Int) = (0 : Int)) ∧
   (v_9.snd.snd.snd = v.snd.snd.fst) ∧
   (v_35 = v.snd.snd.snd.fst) ∧
   (v_51 = v.snd.snd.snd.snd) ∧
   (v_9.fst < (oneV (8 : Int) b).toNat) ∧
   (
    ((0 : Int) ≤ oneV (8 : Int) b) ∧
    (oneV (8 : Int) b ≤ (8 : Int))) ∧
   (b.length ≤ (1000000 : Nat)) ∧
   (v.snd.fst.length ≤ b.length) ∧
   (v.snd.snd.fst.length = v_9.fst) ∧
   (
    ((0 : Int) ≤ v.snd.snd.snd.fst) ∧
    (v.snd.snd.snd.fst ≤ (1048576 : Int))) ∧
   (
    ((0 : Int) ≤ v.snd.snd.snd.snd) ∧
    (v.snd.snd.snd.snd ≤ (1048576 : Int))) ∧
   (PA b v_9.fst v.snd.snd.snd.fst v.snd.snd.snd.snd v.snd.fst v.fst v.snd.snd.fst)) ∧
   (
   (
    (
    ((0 : Int) ≤ (1048576 : Int)) ∧
    ((1048576 : Int) ≤ (9223372036854775807 : Int))) ∧
    (v_9.snd.snd.fst.length ≤ (1000000 : Nat)) ∧
    ∀ (v_59 : Int),
    ∀ (r_60 : List UInt8),
    ∀ (bd_61 : Bool),
    (v_59 = oneV (1048576 : Int) v_9.snd.snd.fst) →
    (r_60 = oneR (1048576 : Int) v_9.snd.snd.fst) →
    (bd_61 = (v_9.snd.fst || oneB (1048576 : Int) v_9.snd.snd.fst)) →
    ((0 : Int) ≤ v_59 ∧ v_59 ≤ (1048576 : Int)) →
    (r_60.length ≤ v_9.snd.snd.fst.length) →
    (
    (
     ((0 : Int) ≤ (1048576 : Int)) ∧
     ((1048576 : Int) ≤ (9223372036854775807 : Int))) ∧
    (r_60.length ≤ (1000000 : Nat)) ∧
    ∀ (v_67 : Int),
    ∀ (r_68 : List UInt8),
    ∀ (bd_69 : Bool),
    (v_67 = oneV (1048576 : Int) r_60) →
    (r_68 = oneR (1048576 : Int) r_60) →
    (bd_69 = (bd_61 || oneB (1048576 : Int) r_60)) →
    ((0 : Int) ≤ v_67 ∧ v_67 ≤ (1048576 : Int)) →
    (r_68.length ≤ r_60.length) →
    ∃ (v : Bool × List UInt8 × List Plan × Int × Int),
    ((0 : Nat) = (0 : Nat)) ∧
    (v_9.fst = v_9.fst) ∧
    (oneV (8 : Int) b = oneV (8 : Int) b) ∧
    ((↑v_9.fst : Int) = (↑v_9.fst : Int)) ∧
    (r_68 = v.snd.fst) ∧
    (bd_69 = v.fst) ∧
    ((0 : Int) = (0 : Int)) ∧
    ((0 : Int) = (0 : Int)) ∧
    ((0 : Int) = (0 : Int)) ∧
    ((0 : Int) = (0 : Int)) ∧
    ((0 : Int) = (0 : Int)) ∧
    ((0 : Int) = (0 : Int)) ∧
    (v_9.snd.snd.snd = v.snd.snd.fst) ∧
    (v_59 = v.snd.snd.snd.fst) ∧
    (v_67 = v.snd.snd.snd.snd) ∧
    (v_9.fst < (oneV (8 : Int) b).toNat) ∧
    (
     ((0 : Int) ≤ oneV (8 : Int) b) ∧
     (oneV (8 : Int) b ≤ (8 : Int))) ∧
    (b.length ≤ (1000000 : Nat)) ∧
    (v.snd.fst.length ≤ b.length) ∧
    (v.snd.snd.fst.length = v_9.fst) ∧
    (
     ((0 : Int) ≤ v.snd.snd.snd.fst) ∧
     (v.snd.snd.snd.fst ≤ (1048576 : Int))) ∧
    (
     ((0 : Int) ≤ v.snd.snd.snd.snd) ∧
     (v.snd.snd.snd.snd ≤ (1048576 : Int))) ∧
    (PA b v_9.fst v.snd.snd.snd.fst v.snd.snd.snd.snd v.snd.fst v.fst v.snd.snd.fst)) ∧
    (
    ((0 : Int) ≤ (1048576 : Int)) ∧
    ((1048576 : Int) ≤ (9223372036854775807 : Int))) ∧
    (r_60.length ≤ (1000000 : Nat)) ∧
    ∀ (v_75 : Int),
    ∀ (r_76 : List UInt8),
    ∀ (bd_77 : Bool),
    (v_75 = oneV (1048576 : Int) r_60) →
    (r_76 = oneR (1048576 : Int) r_60) →
    (bd_77 = (bd_61 || oneB (1048576 : Int) r_60)) →
    ((0 : Int) ≤ v_75 ∧ v_75 ≤ (1048576 : Int)) →
    (r_76.length ≤ r_60.length) →
    ∃ (v : Bool × List UInt8 × List Plan × Int × Int),
    ((0 : Nat) = (0 : Nat)) ∧
    (v_9.fst = v_9.fst) ∧
    (oneV (8 : Int) b = oneV (8 : Int) b) ∧
    ((↑v_9.fst : Int) = (↑v_9.fst : Int)) ∧
    (r_76 = v.snd.fst) ∧
    (bd_77 = v.fst) ∧
    ((0 : Int) = (0 : Int)) ∧
    ((0 : Int) = (0 : Int)) ∧
    ((0 : Int) = (0 : Int)) ∧
    ((0 : Int) = (0 : Int)) ∧
    ((0 : Int) = (0 : Int)) ∧
    ((0 : Int) = (0 : Int)) ∧
    (v_9.snd.snd.snd = v.snd.snd.fst) ∧
    (v_59 = v.snd.snd.snd.fst) ∧
    (v_75 = v.snd.snd.snd.snd) ∧
    (v_9.fst < (oneV (8 : Int) b).toNat) ∧
    (
    ((0 : Int) ≤ oneV (8 : Int) b) ∧
    (oneV (8 : Int) b ≤ (8 : Int))) ∧
    (b.length ≤ (1000000 : Nat)) ∧
    (v.snd.fst.length ≤ b.length) ∧
    (v.snd.snd.fst.length = v_9.fst) ∧
    (
    ((0 : Int) ≤ v.snd.snd.snd.fst) ∧
    (v.snd.snd.snd.fst ≤ (1048576 : Int))) ∧
    (
    ((0 : Int) ≤ v.snd.snd.snd.snd) ∧
    (v.snd.snd.snd.snd ≤ (1048576 : Int))) ∧
    (PA b v_9.fst v.snd.snd.snd.fst v.snd.snd.snd.snd v.snd.fst v.fst v.snd.snd.fst)) ∧
   (
    ((0 : Int) ≤ (1048576 : Int)) ∧
    ((1048576 : Int) ≤ (9223372036854775807 : Int))) ∧
   (v_9.snd.snd.fst.length ≤ (1000000 : Nat)) ∧
   ∀ (v_83 : Int),
   ∀ (r_84 : List UInt8),
   ∀ (bd_85 : Bool),
   (v_83 = oneV (1048576 : Int) v_9.snd.snd.fst) →
   (r_84 = oneR (1048576 : Int) v_9.snd.snd.fst) →
   (bd_85 = (v_9.snd.fst || oneB (1048576 : Int) v_9.snd.snd.fst)) →
   ((0 : Int) ≤ v_83 ∧ v_83 ≤ (1048576 : Int)) →
   (r_84.length ≤ v_9.snd.snd.fst.length) →
   (
    ((0 : Int) ≤ (1048576 : Int)) ∧
    ((1048576 : Int) ≤ (9223372036854775807 : Int))) ∧
   (r_84.length ≤ (1000000 : Nat)) ∧
   ∀ (v_91 : Int),
   ∀ (r_92 : List UInt8),
   ∀ (bd_93 : Bool),
   (v_91 = oneV (1048576 : Int) r_84) →
   (r_92 = oneR (1048576 : Int) r_84) →
   (bd_93 = (bd_85 || oneB (1048576 : Int) r_84)) →
   ((0 : Int) ≤ v_91 ∧ v_91 ≤ (1048576 : Int)) →
   (r_92.length ≤ r_84.length) →
   ∃ (v : Bool × List UInt8 × List Plan × Int × Int),
   ((0 : Nat) = (0 : Nat)) ∧
   (v_9.fst = v_9.fst) ∧
   (oneV (8 : Int) b = oneV (8 : Int) b) ∧
   ((↑v_9.fst : Int) = (↑v_9.fst : Int)) ∧
   (r_92 = v.snd.fst) ∧
   (bd_93 = v.fst) ∧
   ((0 : Int) = (0 : Int)) ∧
   ((0 : Int) = (0 : Int)) ∧
   ((0 : Int) = (0 : Int)) ∧
   ((0 : Int) = (0 : Int)) ∧
   ((0 : Int) = (0 : Int)) ∧
   ((0 : Int) = (0 : Int)) ∧
   (v_9.snd.snd.snd = v.snd.snd.fst) ∧
   (v_83 = v.snd.snd.snd.fst) ∧
   (v_91 = v.snd.snd.snd.snd) ∧
   (v_9.fst < (oneV (8 : Int) b).toNat) ∧
   (
    ((0 : Int) ≤ oneV (8 : Int) b) ∧
    (oneV (8 : Int) b ≤ (8 : Int))) ∧
   (b.length ≤ (1000000 : Nat)) ∧
   (v.snd.fst.length ≤ b.length) ∧
   (v.snd.snd.fst.length = v_9.fst) ∧
   (
    ((0 : Int) ≤ v.snd.snd.snd.fst) ∧
    (v.snd.snd.snd.fst ≤ (1048576 : Int))) ∧
   (
    ((0 : Int) ≤ v.snd.snd.snd.snd) ∧
    (v.snd.snd.snd.snd ≤ (1048576 : Int))) ∧
   (PA b v_9.fst v.snd.snd.snd.fst v.snd.snd.snd.snd v.snd.fst v.fst v.snd.snd.fst)) ∧
   (
   (
    ((0 : Int) ≤ (1048576 : Int)) ∧
    ((1048576 : Int) ≤ (9223372036854775807 : Int))) ∧
   (v_9.snd.snd.fst.length ≤ (1000000 : Nat)) ∧
   ∀ (v_99 : Int),
   ∀ (r_100 : List UInt8),
   ∀ (bd_101 : Bool),
   (v_99 = oneV (1048576 : Int) v_9.snd.snd.fst) →
   (r_100 = oneR (1048576 : Int) v_9.snd.snd.fst) →
   (bd_101 = (v_9.snd.fst || oneB (1048576 : Int) v_9.snd.snd.fst)) →
   ((0 : Int) ≤ v_99 ∧ v_99 ≤ (1048576 : Int)) →
   (r_100.length ≤ v_9.snd.snd.fst.length) →
   (
    ((0 : Int) ≤ (1048576 : Int)) ∧
    ((1048576 : Int) ≤ (9223372036854775807 : Int))) ∧
   (r_100.length ≤ (1000000 : Nat)) ∧
   ∀ (v_107 : Int),
   ∀ (r_108 : List UInt8),
   ∀ (bd_109 : Bool),
   (v_107 = oneV (1048576 : Int) r_100) →
   (r_108 = oneR (1048576 : Int) r_100) →
   (bd_109 = (bd_101 || oneB (1048576 : Int) r_100)) →
   ((0 : Int) ≤ v_107 ∧ v_107 ≤ (1048576 : Int)) →
   (r_108.length ≤ r_100.length) →
   ∃ (v : Bool × List UInt8 × List Plan × Int × Int),
   ((0 : Nat) = (0 : Nat)) ∧
   (v_9.fst = v_9.fst) ∧
   (oneV (8 : Int) b = oneV (8 : Int) b) ∧
   ((↑v_9.fst : Int) = (↑v_9.fst : Int)) ∧
   (r_108 = v.snd.fst) ∧
   (bd_109 = v.fst) ∧
   ((0 : Int) = (0 : Int)) ∧
   ((0 : Int) = (0 : Int)) ∧
   ((0 : Int) = (0 : Int)) ∧
   ((0 : Int) = (0 : Int)) ∧
   ((0 : Int) = (0 : Int)) ∧
   ((0 : Int) = (0 : Int)) ∧
   (v_9.snd.snd.snd = v.snd.snd.fst) ∧
   (v_99 = v.snd.snd.snd.fst) ∧
   (v_107 = v.snd.snd.snd.snd) ∧
   (v_9.fst < (oneV (8 : Int) b).toNat) ∧
   (
    ((0 : Int) ≤ oneV (8 : Int) b) ∧
    (oneV (8 : Int) b ≤ (8 : Int))) ∧
   (b.length ≤ (1000000 : Nat)) ∧
   (v.snd.fst.length ≤ b.length) ∧
   (v.snd.snd.fst.length = v_9.fst) ∧
   (
    ((0 : Int) ≤ v.snd.snd.snd.fst) ∧
    (v.snd.snd.snd.fst ≤ (1048576 : Int))) ∧
   (
    ((0 : Int) ≤ v.snd.snd.snd.snd) ∧
    (v.snd.snd.snd.snd ≤ (1048576 : Int))) ∧
   (PA b v_9.fst v.snd.snd.snd.fst v.snd.snd.snd.snd v.snd.fst v.fst v.snd.snd.fst)) ∧
   (
   ((0 : Int) ≤ (1048576 : Int)) ∧
   ((1048576 : Int) ≤ (9223372036854775807 : Int))) ∧
   (v_9.snd.snd.fst.length ≤ (1000000 : Nat)) ∧
   ∀ (v_115 : Int),
   ∀ (r_116 : List UInt8),
   ∀ (bd_117 : Bool),
   (v_115 = oneV (1048576 : Int) v_9.snd.snd.fst) →
   (r_116 = oneR (1048576 : Int) v_9.snd.snd.fst) →
   (bd_117 = (v_9.snd.fst || oneB (1048576 : Int) v_9.snd.snd.fst)) →
   ((0 : Int) ≤ v_115 ∧ v_115 ≤ (1048576 : Int)) →
   (r_116.length ≤ v_9.snd.snd.fst.length) →
   (
   ((0 : Int) ≤ (1048576 : Int)) ∧
   ((1048576 : Int) ≤ (9223372036854775807 : Int))) ∧
   (r_116.length ≤ (1000000 : Nat)) ∧
   ∀ (v_123 : Int),
   ∀ (r_124 : List UInt8),
   ∀ (bd_125 : Bool),
   (v_123 = oneV (1048576 : Int) r_116) →
   (r_124 = oneR (1048576 : Int) r_116) →
   (bd_125 = (bd_117 || oneB (1048576 : Int) r_116)) →
   ((0 : Int) ≤ v_123 ∧ v_123 ≤ (1048576 : Int)) →
   (r_124.length ≤ r_116.length) →
   ∃ (v : Bool × List UInt8 × List Plan × Int × Int),
   ((0 : Nat) = (0 : Nat)) ∧
   (v_9.fst = v_9.fst) ∧
   (oneV (8 : Int) b = oneV (8 : Int) b) ∧
   ((↑v_9.fst : Int) = (↑v_9.fst : Int)) ∧
   (r_124 = v.snd.fst) ∧
   (bd_125 = v.fst) ∧
   ((0 : Int) = (0 : Int)) ∧
   ((0 : Int) = (0 : Int)) ∧
   ((0 : Int) = (0 : Int)) ∧
   ((0 : Int) = (0 : Int)) ∧
   ((0 : Int) = (0 : Int)) ∧
   ((0 : Int) = (0 : Int)) ∧
   (v_9.snd.snd.snd = v.snd.snd.fst) ∧
   (v_115 = v.snd.snd.snd.fst) ∧
   (v_123 = v.snd.snd.snd.snd) ∧
   (v_9.fst < (oneV (8 : Int) b).toNat) ∧
   (
   ((0 : Int) ≤ oneV (8 : Int) b) ∧
   (oneV (8 : Int) b ≤ (8 : Int))) ∧
   (b.length ≤ (1000000 : Nat)) ∧
   (v.snd.fst.length ≤ b.length) ∧
   (v.snd.snd.fst.length = v_9.fst) ∧
   (
   ((0 : Int) ≤ v.snd.snd.snd.fst) ∧
   (v.snd.snd.snd.fst ≤ (1048576 : Int))) ∧
   (
   ((0 : Int) ≤ v.snd.snd.snd.snd) ∧
   (v.snd.snd.snd.snd ≤ (1048576 : Int))) ∧
   (PA b v_9.fst v.snd.snd.snd.fst v.snd.snd.snd.snd v.snd.fst v.fst v.snd.snd.fst)) ∧
  (
   (
   ((0 : Int) ≤ (1048576 : Int)) ∧
   ((1048576 : Int) ≤ (9223372036854775807 : Int))) ∧
   (v_9.snd.snd.fst.length ≤ (1000000 : Nat)) ∧
   ∀ (v_131 : Int),
   ∀ (r_132 : List UInt8),
   ∀ (bd_133 : Bool),
   (v_131 = oneV (1048576 : Int) v_9.snd.snd.fst) →
   (r_132 = oneR (1048576 : Int) v_9.snd.snd.fst) →
   (bd_133 = (v_9.snd.fst || oneB (1048576 : Int) v_9.snd.snd.fst)) →
   ((0 : Int) ≤ v_131 ∧ v_131 ≤ (1048576 : Int)) →
   (r_132.length ≤ v_9.snd.snd.fst.length) →
   (
   ((0 : Int) ≤ (1048576 : Int)) ∧
   ((1048576 : Int) ≤ (9223372036854775807 : Int))) ∧
   (r_132.length ≤ (1000000 : Nat)) ∧
   ∀ (v_139 : Int),
   ∀ (r_140 : List UInt8),
   ∀ (bd_141 : Bool),
   (v_139 = oneV (1048576 : Int) r_132) →
   (r_140 = oneR (1048576 : Int) r_132) →
   (bd_141 = (bd_133 || oneB (1048576 : Int) r_132)) →
   ((0 : Int) ≤ v_139 ∧ v_139 ≤ (1048576 : Int)) →
   (r_140.length ≤ r_132.length) →
   ∃ (v : Bool × List UInt8 × List Plan × Int × Int),
   ((0 : Nat) = (0 : Nat)) ∧
   (v_9.fst = v_9.fst) ∧
   (oneV (8 : Int) b = oneV (8 : Int) b) ∧
   ((↑v_9.fst : Int) = (↑v_9.fst : Int)) ∧
   (r_140 = v.snd.fst) ∧
   (bd_141 = v.fst) ∧
   ((0 : Int) = (0 : Int)) ∧
   ((0 : Int) = (0 : Int)) ∧
   ((0 : Int) = (0 : Int)) ∧
   ((0 : Int) = (0 : Int)) ∧
   ((0 : Int) = (0 : Int)) ∧
   ((0 : Int) = (0 : Int)) ∧
   (v_9.snd.snd.snd = v.snd.snd.fst) ∧
   (v_131 = v.snd.snd.snd.fst) ∧
   (v_139 = v.snd.snd.snd.snd) ∧
   (v_9.fst < (oneV (8 : Int) b).toNat) ∧
   (
   ((0 : Int) ≤ oneV (8 : Int) b) ∧
   (oneV (8 : Int) b ≤ (8 : Int))) ∧
   (b.length ≤ (1000000 : Nat)) ∧
   (v.snd.fst.length ≤ b.length) ∧
   (v.snd.snd.fst.length = v_9.fst) ∧
   (
   ((0 : Int) ≤ v.snd.snd.snd.fst) ∧
   (v.snd.snd.snd.fst ≤ (1048576 : Int))) ∧
   (
   ((0 : Int) ≤ v.snd.snd.snd.snd) ∧
   (v.snd.snd.snd.snd ≤ (1048576 : Int))) ∧
   (PA b v_9.fst v.snd.snd.snd.fst v.snd.snd.snd.snd v.snd.fst v.fst v.snd.snd.fst)) ∧
  (
   (
   ((0 : Int) ≤ (1048576 : Int)) ∧
   ((1048576 : Int) ≤ (9223372036854775807 : Int))) ∧
   (v_9.snd.snd.fst.length ≤ (1000000 : Nat)) ∧
   ∀ (v_147 : Int),
   ∀ (r_148 : List UInt8),
   ∀ (bd_149 : Bool),
   (v_147 = oneV (1048576 : Int) v_9.snd.snd.fst) →
   (r_148 = oneR (1048576 : Int) v_9.snd.snd.fst) →
   (bd_149 = (v_9.snd.fst || oneB (1048576 : Int) v_9.snd.snd.fst)) →
   ((0 : Int) ≤ v_147 ∧ v_147 ≤ (1048576 : Int)) →
   (r_148.length ≤ v_9.snd.snd.fst.length) →
   (
   ((0 : Int) ≤ (1048576 : Int)) ∧
   ((1048576 : Int) ≤ (9223372036854775807 : Int))) ∧
   (r_148.length ≤ (1000000 : Nat)) ∧
   ∀ (v_155 : Int),
   ∀ (r_156 : List UInt8),
   ∀ (bd_157 : Bool),
   (v_155 = oneV (1048576 : Int) r_148) →
   (r_156 = oneR (1048576 : Int) r_148) →
   (bd_157 = (bd_149 || oneB (1048576 : Int) r_148)) →
   ((0 : Int) ≤ v_155 ∧ v_155 ≤ (1048576 : Int)) →
   (r_156.length ≤ r_148.length) →
   ∃ (v : Bool × List UInt8 × List Plan × Int × Int),
   ((0 : Nat) = (0 : Nat)) ∧
   (v_9.fst = v_9.fst) ∧
   (oneV (8 : Int) b = oneV (8 : Int) b) ∧
   ((↑v_9.fst : Int) = (↑v_9.fst : Int)) ∧
   (r_156 = v.snd.fst) ∧
   (bd_157 = v.fst) ∧
   ((0 : Int) = (0 : Int)) ∧
   ((0 : Int) = (0 : Int)) ∧
   ((0 : Int) = (0 : Int)) ∧
   ((0 : Int) = (0 : Int)) ∧
   ((0 : Int) = (0 : Int)) ∧
   ((0 : Int) = (0 : Int)) ∧
   (v_9.snd.snd.snd = v.snd.snd.fst) ∧
   (v_147 = v.snd.snd.snd.fst) ∧
   (v_155 = v.snd.snd.snd.snd) ∧
   (v_9.fst < (oneV (8 : Int) b).toNat) ∧
   (
   ((0 : Int) ≤ oneV (8 : Int) b) ∧
   (oneV (8 : Int) b ≤ (8 : Int))) ∧
   (b.length ≤ (1000000 : Nat)) ∧
   (v.snd.fst.length ≤ b.length) ∧
   (v.snd.snd.fst.length = v_9.fst) ∧
   (
   ((0 : Int) ≤ v.snd.snd.snd.fst) ∧
   (v.snd.snd.snd.fst ≤ (1048576 : Int))) ∧
   (
   ((0 : Int) ≤ v.snd.snd.snd.snd) ∧
   (v.snd.snd.snd.snd ≤ (1048576 : Int))) ∧
   (PA b v_9.fst v.snd.snd.snd.fst v.snd.snd.snd.snd v.snd.fst v.fst v.snd.snd.fst)) ∧
  (
   ((0 : Int) ≤ (1048576 : Int)) ∧
   ((1048576 : Int) ≤ (9223372036854775807 : Int))) ∧
  (v_9.snd.snd.fst.length ≤ (1000000 : Nat)) ∧
  ∀ (v_163 : Int),
  ∀ (r_164 : List UInt8),
  ∀ (bd_165 : Bool),
  (v_163 = oneV (1048576 : Int) v_9.snd.snd.fst) →
  (r_164 = oneR (1048576 : Int) v_9.snd.snd.fst) →
  (bd_165 = (v_9.snd.fst || oneB (1048576 : Int) v_9.snd.snd.fst)) →
  ((0 : Int) ≤ v_163 ∧ v_163 ≤ (1048576 : Int)) →
  (r_164.length ≤ v_9.snd.snd.fst.length) →
  (
   ((0 : Int) ≤ (1048576 : Int)) ∧
   ((1048576 : Int) ≤ (9223372036854775807 : Int))) ∧
  (r_164.length ≤ (1000000 : Nat)) ∧
  ∀ (v_171 : Int),
  ∀ (r_172 : List UInt8),
  ∀ (bd_173 : Bool),
  (v_171 = oneV (1048576 : Int) r_164) →
  (r_172 = oneR (1048576 : Int) r_164) →
  (bd_173 = (bd_165 || oneB (1048576 : Int) r_164)) →
  ((0 : Int) ≤ v_171 ∧ v_171 ≤ (1048576 : Int)) →
  (r_172.length ≤ r_164.length) →
  ∃ (v : Bool × List UInt8 × List Plan × Int × Int),
  ((0 : Nat) = (0 : Nat)) ∧
  (v_9.fst = v_9.fst) ∧
  (oneV (8 : Int) b = oneV (8 : Int) b) ∧
  ((↑v_9.fst : Int) = (↑v_9.fst : Int)) ∧
  (r_172 = v.snd.fst) ∧
  (bd_173 = v.fst) ∧
  ((0 : Int) = (0 : Int)) ∧
  ((0 : Int) = (0 : Int)) ∧
  ((0 : Int) = (0 : Int)) ∧
  ((0 : Int) = (0 : Int)) ∧
  ((0 : Int) = (0 : Int)) ∧
  ((0 : Int) = (0 : Int)) ∧
  (v_9.snd.snd.snd = v.snd.snd.fst) ∧
  (v_163 = v.snd.snd.snd.fst) ∧
  (v_171 = v.snd.snd.snd.snd) ∧
  (v_9.fst < (oneV (8 : Int) b).toNat) ∧
  (
   ((0 : Int) ≤ oneV (8 : Int) b) ∧
   (oneV (8 : Int) b ≤ (8 : Int))) ∧
  (b.length ≤ (1000000 : Nat)) ∧
  (v.snd.fst.length ≤ b.length) ∧
  (v.snd.snd.fst.length = v_9.fst) ∧
  (
   ((0 : Int) ≤ v.snd.snd.snd.fst) ∧
   (v.snd.snd.snd.fst ≤ (1048576 : Int))) ∧
  (
   ((0 : Int) ≤ v.snd.snd.snd.snd) ∧
   (v.snd.snd.snd.snd ≤ (1048576 : Int))) ∧
  (PA b v_9.fst v.snd.snd.snd.fst v.snd.snd.snd.snd v.snd.fst v.fst v.snd.snd.fst)) ∧
  ∀ (v_179 : Bool × List UInt8 × List Plan × Int × Int),
  (v_9.fst < (oneV (8 : Int) b).toNat ∧ ((0 : Int) ≤ oneV (8 : Int) b ∧ oneV (8 : Int) b ≤ (8 : Int)) ∧ b.length ≤ (1000000 : Nat) ∧ v_179.snd.fst.length ≤ b.length ∧ v_179.snd.snd.fst.length = v_9.fst ∧ ((0 : Int) ≤ v_179.snd.snd.snd.fst ∧ v_179.snd.snd.snd.fst ≤ (1048576 : Int)) ∧ ((0 : Int) ≤ v_179.snd.snd.snd.snd ∧ v_179.snd.snd.snd.snd ≤ (1048576 : Int)) ∧ PA b v_9.fst v_179.snd.snd.snd.fst v_179.snd.snd.snd.snd v_179.snd.fst v_179.fst v_179.snd.snd.fst) →
  (
  (
   (
   ((0 : Int) ≤ (8 : Int)) ∧
   ((8 : Int) ≤ (9223372036854775807 : Int))) ∧
   (v_179.snd.fst.length ≤ (1000000 : Nat)) ∧
   ∀ (v_181 : Int),
   ∀ (r_182 : List UInt8),
   ∀ (bd_183 : Bool),
   (v_181 = oneV (8 : Int) v_179.snd.fst) →
   (r_182 = oneR (8 : Int) v_179.snd.fst) →
   (bd_183 = (v_179.fst || oneB (8 : Int) v_179.snd.fst)) →
   ((0 : Int) ≤ v_181 ∧ v_181 ≤ (8 : Int)) →
   (r_182.length ≤ v_179.snd.fst.length) →
   (
   ((0 : Int) ≤ v_181) ∧
   (v_181 ≤ (8 : Int))) ∧
   (r_182.length ≤ (1000000 : Nat)) ∧
   ∀ (ks_189 : List Int),
   ∀ (q_190 : Nat),
   ∀ (r_191 : List UInt8),
   ∀ (bd_192 : Bool),
   (TIn r_182 bd_183 v_181.toNat v_181.toNat bd_192 r_191 ks_189) →
   (ks_189.length = q_190) →
   (q_190 = v_181.toNat) →
   (r_191.length ≤ r_182.length) →
   ((v_9.fst + (1 : Nat)) * (40 : Nat) ≤ (140737488355328 : Nat)) ∧
   ∀ (z197 : List Plan),
   (z197 = List.take v_9.fst v_179.snd.snd.fst ++ List.take (1 : Nat) (List.drop (0 : Nat) [{ cycle := v_179.snd.snd.snd.fst, offset := v_179.snd.snd.snd.snd, splits := List.take q_190 (List.drop (0 : Nat) ks_189) : Plan }])) →
   ∀ (n199 : Int),
   (n199 = IntKind.i64.wrap ((↑v_9.fst : Int) + (1 : Int))) →
   ((-9223372036854775808 : Int) ≤ n199 ∧ n199 ≤ (9223372036854775807 : Int)) →
   ∃ (v' : Nat × Bool × List UInt8 × List Plan),
   ((0 : Nat) = (0 : Nat)) ∧
   (v_9.fst + (1 : Nat) = v'.fst) ∧
   (oneV (8 : Int) b = oneV (8 : Int) b) ∧
   (n199 = (↑v'.fst : Int)) ∧
   (r_191 = v'.snd.snd.fst) ∧
   (bd_192 = v'.snd.fst) ∧
   ((0 : Int) = (0 : Int)) ∧
   ((0 : Int) = (0 : Int)) ∧
   ((0 : Int) = (0 : Int)) ∧
   ((0 : Int) = (0 : Int)) ∧
   ((0 : Int) = (0 : Int)) ∧
   ((0 : Int) = (0 : Int)) ∧
   (z197 = v'.snd.snd.snd) ∧
   (
   (v'.fst ≤ (oneV (8 : Int) b).toNat) ∧
   (
    ((0 : Int) ≤ oneV (8 : Int) b) ∧
    (oneV (8 : Int) b ≤ (8 : Int))) ∧
   (b.length ≤ (1000000 : Nat)) ∧
   (v'.snd.snd.fst.length ≤ b.length) ∧
   (v'.snd.snd.snd.length = v'.fst) ∧
   (PIn b v'.fst v'.snd.fst v'.snd.snd.fst v'.snd.snd.snd)) ∧
   ((oneV (8 : Int) b).toNat - v'.fst < (oneV (8 : Int) b).toNat - v_9.fst)) ∧
  (
   ((0 : Int) ≤ (8 : Int)) ∧
   ((8 : Int) ≤ (9223372036854775807 : Int))) ∧
  (v_179.snd.fst.length ≤ (1000000 : Nat)) ∧
  ∀ (v_202 : Int),
  ∀ (r_203 : List UInt8),
  ∀ (bd_204 : Bool),
  (v_202 = oneV (8 : Int) v_179.snd.fst) →
  (r_203 = oneR (8 : Int) v_179.snd.fst) →
  (bd_204 = (v_179.fst || oneB (8 : Int) v_179.snd.fst)) →
  ((0 : Int) ≤ v_202 ∧ v_202 ≤ (8 : Int)) →
  (r_203.length ≤ v_179.snd.fst.length) →
  (
   ((0 : Int) ≤ v_202) ∧
   (v_202 ≤ (8 : Int))) ∧
  (r_203.length ≤ (1000000 : Nat)) ∧
  ∀ (ks_210 : List Int),
  ∀ (q_211 : Nat),
  ∀ (r_212 : List UInt8),
  ∀ (bd_213 : Bool),
  (TIn r_203 bd_204 v_202.toNat v_202.toNat bd_213 r_212 ks_210) →
  (ks_210.length = q_211) →
  (q_211 = v_202.toNat) →
  (r_212.length ≤ r_203.length) →
  ((v_9.fst + (1 : Nat)) * (40 : Nat) ≤ (140737488355328 : Nat)) ∧
  ∀ (z218 : List Plan),
  (z218 = List.take v_9.fst v_179.snd.snd.fst ++ List.take (1 : Nat) (List.drop (0 : Nat) [{ cycle := v_179.snd.snd.snd.fst, offset := v_179.snd.snd.snd.snd, splits := List.take q_211 (List.drop (0 : Nat) ks_210) : Plan }])) →
  ∀ (n220 : Int),
  (n220 = IntKind.i64.wrap ((↑v_9.fst : Int) + (1 : Int))) →
  ((-9223372036854775808 : Int) ≤ n220 ∧ n220 ≤ (9223372036854775807 : Int)) →
  ∃ (v' : Nat × Bool × List UInt8 × List Plan),
  ((0 : Nat) = (0 : Nat)) ∧
  (v_9.fst + (1 : Nat) = v'.fst) ∧
  (oneV (8 : Int) b = oneV (8 : Int) b) ∧
  (n220 = (↑v'.fst : Int)) ∧
  (r_212 = v'.snd.snd.fst) ∧
  (bd_213 = v'.snd.fst) ∧
  ((0 : Int) = (0 : Int)) ∧
  ((0 : Int) = (0 : Int)) ∧
  ((0 : Int) = (0 : Int)) ∧
  ((0 : Int) = (0 : Int)) ∧
  ((0 : Int) = (0 : Int)) ∧
  ((0 : Int) = (0 : Int)) ∧
  (z218 = v'.snd.snd.snd) ∧
  (
   (v'.fst ≤ (oneV (8 : Int) b).toNat) ∧
   (
   ((0 : Int) ≤ oneV (8 : Int) b) ∧
   (oneV (8 : Int) b ≤ (8 : Int))) ∧
   (b.length ≤ (1000000 : Nat)) ∧
   (v'.snd.snd.fst.length ≤ b.length) ∧
   (v'.snd.snd.snd.length = v'.fst) ∧
   (PIn b v'.fst v'.snd.fst v'.snd.snd.fst v'.snd.snd.snd)) ∧
  ((oneV (8 : Int) b).toNat - v'.fst < (oneV (8 : Int) b).toNat - v_9.fst)) ∧
  (
  ((0 : Int) ≤ (8 : Int)) ∧
  ((8 : Int) ≤ (9223372036854775807 : Int))) ∧
  (v_179.snd.fst.length ≤ (1000000 : Nat)) ∧
  ∀ (v_223 : Int),
  ∀ (r_224 : List UInt8),
  ∀ (bd_225 : Bool),
  (v_223 = oneV (8 : Int) v_179.snd.fst) →
  (r_224 = oneR (8 : Int) v_179.snd.fst) →
  (bd_225 = (v_179.fst || oneB (8 : Int) v_179.snd.fst)) →
  ((0 : Int) ≤ v_223 ∧ v_223 ≤ (8 : Int)) →
  (r_224.length ≤ v_179.snd.fst.length) →
  (
  ((0 : Int) ≤ v_223) ∧
  (v_223 ≤ (8 : Int))) ∧
  (r_224.length ≤ (1000000 : Nat)) ∧
  ∀ (ks_231 : List Int),
  ∀ (q_232 : Nat),
  ∀ (r_233 : List UInt8),
  ∀ (bd_234 : Bool),
  (TIn r_224 bd_225 v_223.toNat v_223.toNat bd_234 r_233 ks_231) →
  (ks_231.length = q_232) →
  (q_232 = v_223.toNat) →
  (r_233.length ≤ r_224.length) →
  ((v_9.fst + (1 : Nat)) * (40 : Nat) ≤ (140737488355328 : Nat)) ∧
  ∀ (z239 : List Plan),
  (z239 = List.take v_9.fst v_179.snd.snd.fst ++ List.take (1 : Nat) (List.drop (0 : Nat) [{ cycle := v_179.snd.snd.snd.fst, offset := v_179.snd.snd.snd.snd, splits := List.take q_232 (List.drop (0 : Nat) ks_231) : Plan }])) →
  ∀ (n241 : Int),
  (n241 = IntKind.i64.wrap ((↑v_9.fst : Int) + (1 : Int))) →
  ((-9223372036854775808 : Int) ≤ n241 ∧ n241 ≤ (9223372036854775807 : Int)) →
  ∃ (v' : Nat × Bool × List UInt8 × List Plan),
  ((0 : Nat) = (0 : Nat)) ∧
  (v_9.fst + (1 : Nat) = v'.fst) ∧
  (oneV (8 : Int) b = oneV (8 : Int) b) ∧
  (n241 = (↑v'.fst : Int)) ∧
  (r_233 = v'.snd.snd.fst) ∧
  (bd_234 = v'.snd.fst) ∧
  ((0 : Int) = (0 : Int)) ∧
  ((0 : Int) = (0 : Int)) ∧
  ((0 : Int) = (0 : Int)) ∧
  ((0 : Int) = (0 : Int)) ∧
  ((0 : Int) = (0 : Int)) ∧
  ((0 : Int) = (0 : Int)) ∧
  (z239 = v'.snd.snd.snd) ∧
  (
  (v'.fst ≤ (oneV (8 : Int) b).toNat) ∧
  (
   ((0 : Int) ≤ oneV (8 : Int) b) ∧
   (oneV (8 : Int) b ≤ (8 : Int))) ∧
  (b.length ≤ (1000000 : Nat)) ∧
  (v'.snd.snd.fst.length ≤ b.length) ∧
  (v'.snd.snd.snd.length = v'.fst) ∧
  (PIn b v'.fst v'.snd.fst v'.snd.snd.fst v'.snd.snd.snd)) ∧
  ((oneV (8 : Int) b).toNat - v'.fst < (oneV (8 : Int) b).toNat - v_9.fst))
 ((k (AV.row (10 : Nat) (1 : Nat) (0 : Nat) v_9.fst) [some (Blk.cells [AV.sl (0 : Nat) v_9.snd.snd.fst, AV.bool v_9.snd.fst, AV.int IntKind.i64 (0 : Int), AV.nilsl, AV.nilsl, AV.nilsl, AV.nilsl, AV.nilsl, AV.int IntKind.i64 (0 : Int), AV.int IntKind.i64 (0 : Int), AV.int IntKind.i64 (0 : Int), AV.int IntKind.i64 (0 : Int), AV.int IntKind.i64 (0 : Int), AV.nilsl])] [Blk.row (10 : Nat) v_9.snd.snd.snd])) := by
 refine ⟨by first | omega | (dsimp only; omega), ?_⟩
 refine ⟨by assumption, ?_⟩
 intro v_1
 intro r_2
 intro bd_3
 intro h1
 intro h2
 intro h3
 simp at h3
 intro ⟨a4, b4⟩
 intro h5
 refine ⟨?_, ?_⟩
 ·
  refine ⟨((0 : Nat), bd_3, r_2, []), ?_⟩
  refine ⟨by first | with_reducible rfl | rfl, ?_⟩
  refine ⟨by first | with_reducible rfl | rfl, ?_⟩
  refine ⟨by show v_1 = oneV (8 : Int) b; assumption, ?_⟩
  refine ⟨by show (0 : Int) = (↑(0 : Nat) : Int); omega, ?_⟩
  refine ⟨by first | with_reducible rfl | rfl, ?_⟩
  refine ⟨by first | with_reducible rfl | rfl, ?_⟩
  refine ⟨by first | with_reducible rfl | rfl, ?_⟩
  refine ⟨by first | with_reducible rfl | rfl, ?_⟩
  refine ⟨by first | with_reducible rfl | rfl, ?_⟩
  refine ⟨by first | with_reducible rfl | rfl, ?_⟩
  refine ⟨by first | with_reducible rfl | rfl, ?_⟩
  refine ⟨by first | with_reducible rfl | rfl, ?_⟩
  refine ⟨by first | with_reducible rfl | rfl, ?_⟩
  refine ⟨by show (0 : Nat) ≤ (oneV (8 : Int) b).toNat; omega, ?_⟩
  refine ⟨by first | omega | (dsimp only; omega), ?_⟩
  refine ⟨by show b.length ≤ (1000000 : Nat); assumption, ?_⟩
  refine ⟨by show r_2.length ≤ b.length; assumption, ?_⟩
  refine ⟨by first | with_reducible rfl | rfl, ?_⟩
  exact pin_0 (by rw [Bool.false_or]; exact h3) h2
 intro v_9
 intro h6
 refine brd (fun c7 => ?_) (fun c7 => ?_)
 ·
  refine ⟨?_, ?_⟩
  ·
   refine ⟨?_, ?_⟩
   ·
    refine ⟨by first | omega | (dsimp only; omega), ?_⟩
    refine ⟨by first | omega | (dsimp only; omega), ?_⟩
    intro v_11
    intro r_12
    intro bd_13
    intro h8
    intro h9
    intro h10
    intro ⟨a11, b11⟩
    intro h12
    refine ⟨?_, ?_⟩
    ·
     refine ⟨by first | omega | (dsimp only; omega), ?_⟩
     refine ⟨by first | omega | (dsimp only; omega), ?_⟩
     intro v_19
     intro r_20
     intro bd_21
     intro h13
     intro h14
     intro h15
     intro ⟨a16, b16⟩
     intro h17
     refine ⟨(bd_21, r_20, v_9.snd.snd.snd, v_11, v_19), ?_⟩
     refine ⟨by first | with_reducible rfl | rfl, ?_⟩
     refine ⟨by first | with_reducible rfl | rfl, ?_⟩
     refine ⟨by first | with_reducible rfl | rfl, ?_⟩
     refine ⟨by first | with_reducible rfl | rfl, ?_⟩
     refine ⟨by first | with_reducible rfl | rfl, ?_⟩
     refine ⟨by first | with_reducible rfl | rfl, ?_⟩
     refine ⟨by first | with_reducible rfl | rfl, ?_⟩
     refine ⟨by first | with_reducible rfl | rfl, ?_⟩
     refine ⟨by first | with_reducible rfl | rfl, ?_⟩
     refine ⟨by first | with_reducible rfl | rfl, ?_⟩
     refine ⟨by first | with_reducible rfl | rfl, ?_⟩
     refine ⟨by first | with_reducible rfl | rfl, ?_⟩
     refine ⟨by first | with_reducible rfl | rfl, ?_⟩
     refine ⟨by first | with_reducible rfl | rfl, ?_⟩
     refine ⟨by first | with_reducible rfl | rfl, ?_⟩
     refine ⟨by show v_9.fst < (oneV (8 : Int) b).toNat; omega, ?_⟩
     refine ⟨by first | omega | (dsimp only; omega), ?_⟩
     refine ⟨by show b.length ≤ (1000000 : Nat); assumption, ?_⟩
     refine ⟨by show r_20.length ≤ b.length; omega, ?_⟩
     refine ⟨by show v_9.snd.snd.snd.length = v_9.fst; omega, ?_⟩
     refine ⟨by exact ⟨by assumption, by assumption⟩, ?_⟩
     refine ⟨by exact ⟨by assumption, by assumption⟩, ?_⟩
     exact pa_mk h6.2.2.2.2.2 h8 h9 h10 h13 h14 h15
    refine ⟨by first | omega | (dsimp only; omega), ?_⟩
    refine ⟨by first | omega | (dsimp only; omega), ?_⟩
    intro v_27
    intro r_28
    intro bd_29
    intro h18
    intro h19
    intro h20
    intro ⟨a21, b21⟩
    intro h22
    refine ⟨(bd_29, r_28, v_9.snd.snd.snd, v_11, v_27), ?_⟩
    refine ⟨by first | with_reducible rfl | rfl, ?_⟩
    refine ⟨by first | with_reducible rfl | rfl, ?_⟩
    refine ⟨by first | with_reducible rfl | rfl, ?_⟩
    refine ⟨by first | with_reducible rfl | rfl, ?_⟩
    refine ⟨by first | with_reducible rfl | rfl, ?_⟩
    refine ⟨by first | with_reducible rfl | rfl, ?_⟩
    refine ⟨by first | with_reducible rfl | rfl, ?_⟩
    refine ⟨by first | with_reducible rfl | rfl, ?_⟩
    refine ⟨by first | with_reducible rfl | rfl, ?_⟩
    refine ⟨by first | with_reducible rfl | rfl, ?_⟩
    refine ⟨by first | with_reducible rfl | rfl, ?_⟩
    refine ⟨by first | with_reducible rfl | rfl, ?_⟩
    refine ⟨by first | with_reducible rfl | rfl, ?_⟩
    refine ⟨by first | with_reducible rfl | rfl, ?_⟩
    refine ⟨by first | with_reducible rfl | rfl, ?_⟩
    refine ⟨by show v_9.fst < (oneV (8 : Int) b).toNat; omega, ?_⟩
    refine ⟨by first | omega | (dsimp only; omega), ?_⟩
    refine ⟨by show b.length ≤ (1000000 : Nat); assumption, ?_⟩
    refine ⟨by show r_28.length ≤ b.length; omega, ?_⟩
    refine ⟨by show v_9.snd.snd.snd.length = v_9.fst; omega, ?_⟩
    refine ⟨by exact ⟨by assumption, by assumption⟩, ?_⟩
    refine ⟨by exact ⟨by assumption, by assumption⟩, ?_⟩
    exact pa_mk h6.2.2.2.2.2 h8 h9 h10 h18 h19 h20
   refine ⟨?_, ?_⟩
   ·
    refine ⟨?_, ?_⟩
    ·
     refine ⟨by first | omega | (dsimp only; omega), ?_⟩
     refine ⟨by first | omega | (dsimp only; omega), ?_⟩
     intro v_35
     intro r_36
     intro bd_37
     intro h23
     intro h24
     intro h25
     intro ⟨a26, b26⟩
     intro h27
     refine ⟨?_, ?_⟩
     ·
      refine ⟨by first | omega | (dsimp only; omega), ?_⟩
      refine ⟨by first | omega | (dsimp only; omega), ?_⟩
      intro v_43
      intro r_44
      intro bd_45
      intro h28
      intro h29
      intro h30
      intro ⟨a31, b31⟩
      intro h32
      refine ⟨(bd_45, r_44, v_9.snd.snd.snd, v_35, v_43), ?_⟩
      refine ⟨by first | with_reducible rfl | rfl, ?_⟩
      refine ⟨by first | with_reducible rfl | rfl, ?_⟩
      refine ⟨by first | with_reducible rfl | rfl, ?_⟩
      refine ⟨by first | with_reducible rfl | rfl, ?_⟩
      refine ⟨by first | with_reducible rfl | rfl, ?_⟩
      refine ⟨by first | with_reducible rfl | rfl, ?_⟩
      refine ⟨by first | with_reducible rfl | rfl, ?_⟩
      refine ⟨by first | with_reducible rfl | rfl, ?_⟩
      refine ⟨by first | with_reducible rfl | rfl, ?_⟩
      refine ⟨by first | with_reducible rfl | rfl, ?_⟩
      refine ⟨by first | with_reducible rfl | rfl, ?_⟩
      refine ⟨by first | with_reducible rfl | rfl, ?_⟩
      refine ⟨by first | with_reducible rfl | rfl, ?_⟩
      refine ⟨by first | with_reducible rfl | rfl, ?_⟩
      refine ⟨by first | with_reducible rfl | rfl, ?_⟩
      refine ⟨by show v_9.fst < (oneV (8 : Int) b).toNat; omega, ?_⟩
      refine ⟨by first | omega | (dsimp only; omega), ?_⟩
      refine ⟨by show b.length ≤ (1000000 : Nat); assumption, ?_⟩
      refine ⟨by show r_44.length ≤ b.length; omega, ?_⟩
      refine ⟨by show v_9.snd.snd.snd.length = v_9.fst; omega, ?_⟩
      refine ⟨by exact ⟨by assumption, by assumption⟩, ?_⟩
      refine ⟨by exact ⟨by assumption, by assumption⟩, ?_⟩
      exact pa_mk h6.2.2.2.2.2 h23 h24 h25 h28 h29 h30
     refine ⟨by first | omega | (dsimp only; omega), ?_⟩
     refine ⟨by first | omega | (dsimp only; omega), ?_⟩
     intro v_51
     intro r_52
     intro bd_53
     intro h33
     intro h34
     intro h35
     intro ⟨a36, b36⟩
     intro h37
     refine ⟨(bd_53, r_52, v_9.snd.snd.snd, v_35, v_51), ?_⟩
     refine ⟨by first | with_reducible rfl | rfl, ?_⟩
     refine ⟨by first | with_reducible rfl | rfl, ?_⟩
     refine ⟨by first | with_reducible rfl | rfl, ?_⟩
     refine ⟨by first | with_reducible rfl | rfl, ?_⟩
     refine ⟨by first | with_reducible rfl | rfl, ?_⟩
     refine ⟨by first | with_reducible rfl | rfl, ?_⟩
     refine ⟨by first | with_reducible rfl | rfl, ?_⟩
     refine ⟨by first | with_reducible rfl | rfl, ?_⟩
     refine ⟨by first | with_reducible rfl | rfl, ?_⟩
     refine ⟨by first | with_reducible rfl | rfl, ?_⟩
     refine ⟨by first | with_reducible rfl | rfl, ?_⟩
     refine ⟨by first | with_reducible rfl | rfl, ?_⟩
     refine ⟨by first | with_reducible rfl | rfl, ?_⟩
     refine ⟨by first | with_reducible rfl | rfl, ?_⟩
     refine ⟨by first | with_reducible rfl | rfl, ?_⟩
     refine ⟨by show v_9.fst < (oneV (8 : Int) b).toNat; omega, ?_⟩
     refine ⟨by first | omega | (dsimp only; omega), ?_⟩
     refine ⟨by show b.length ≤ (1000000 : Nat); assumption, ?_⟩
     refine ⟨by show r_52.length ≤ b.length; omega, ?_⟩
     refine ⟨by show v_9.snd.snd.snd.length = v_9.fst; omega, ?_⟩
     refine ⟨by exact ⟨by assumption, by assumption⟩, ?_⟩
     refine ⟨by exact ⟨by assumption, by assumption⟩, ?_⟩
     exact pa_mk h6.2.2.2.2.2 h23 h24 h25 h33 h34 h35
    refine ⟨?_, ?_⟩
    ·
     refine ⟨?_, ?_⟩
     ·
      refine ⟨by first | omega | (dsimp only; omega), ?_⟩
      refine ⟨by first | omega | (dsimp only; omega), ?_⟩
      intro v_59
      intro r_60
      intro bd_61
      intro h38
      intro h39
      intro h40
      intro ⟨a41, b41⟩
      intro h42
      refine ⟨?_, ?_⟩
      ·
       refine ⟨by first | omega | (dsimp only; omega), ?_⟩
       refine ⟨by first | omega | (dsimp only; omega), ?_⟩
       intro v_67
       intro r_68
       intro bd_69
       intro h43
       intro h44
       intro h45
       intro ⟨a46, b46⟩
       intro h47
       refine ⟨(bd_69, r_68, v_9.snd.snd.snd, v_59, v_67), ?_⟩
       refine ⟨by first | with_reducible rfl | rfl, ?_⟩
       refine ⟨by first | with_reducible rfl | rfl, ?_⟩
       refine ⟨by first | with_reducible rfl | rfl, ?_⟩
       refine ⟨by first | with_reducible rfl | rfl, ?_⟩
       refine ⟨by first | with_reducible rfl | rfl, ?_⟩
       refine ⟨by first | with_reducible rfl | rfl, ?_⟩
       refine ⟨by first | with_reducible rfl | rfl, ?_⟩
       refine ⟨by first | with_reducible rfl | rfl, ?_⟩
       refine ⟨by first | with_reducible rfl | rfl, ?_⟩
       refine ⟨by first | with_reducible rfl | rfl, ?_⟩
       refine ⟨by first | with_reducible rfl | rfl, ?_⟩
       refine ⟨by first | with_reducible rfl | rfl, ?_⟩
       refine ⟨by first | with_reducible rfl | rfl, ?_⟩
       refine ⟨by first | with_reducible rfl | rfl, ?_⟩
       refine ⟨by first | with_reducible rfl | rfl, ?_⟩
       refine ⟨by show v_9.fst < (oneV (8 : Int) b).toNat; omega, ?_⟩
       refine ⟨by first | omega | (dsimp only; omega), ?_⟩
       refine ⟨by show b.length ≤ (1000000 : Nat); assumption, ?_⟩
       refine ⟨by show r_68.length ≤ b.length; omega, ?_⟩
       refine ⟨by show v_9.snd.snd.snd.length = v_9.fst; omega, ?_⟩
       refine ⟨by exact ⟨by assumption, by assumption⟩, ?_⟩
       refine ⟨by exact ⟨by assumption, by assumption⟩, ?_⟩
       exact pa_mk h6.2.2.2.2.2 h38 h39 h40 h43 h44 h45
      refine ⟨by first | omega | (dsimp only; omega), ?_⟩
      refine ⟨by first | omega | (dsimp only; omega), ?_⟩
      intro v_75
      intro r_76
      intro bd_77
      intro h48
      intro h49
      intro h50
      intro ⟨a51, b51⟩
      intro h52
      refine ⟨(bd_77, r_76, v_9.snd.snd.snd, v_59, v_75), ?_⟩
      refine ⟨by first | with_reducible rfl | rfl, ?_⟩
      refine ⟨by first | with_reducible rfl | rfl, ?_⟩
      refine ⟨by first | with_reducible rfl | rfl, ?_⟩
      refine ⟨by first | with_reducible rfl | rfl, ?_⟩
      refine ⟨by first | with_reducible rfl | rfl, ?_⟩
      refine ⟨by first | with_reducible rfl | rfl, ?_⟩
      refine ⟨by first | with_reducible rfl | rfl, ?_⟩
      refine ⟨by first | with_reducible rfl | rfl, ?_⟩
      refine ⟨by first | with_reducible rfl | rfl, ?_⟩
      refine ⟨by first | with_reducible rfl | rfl, ?_⟩
      refine ⟨by first | with_reducible rfl | rfl, ?_⟩
      refine ⟨by first | with_reducible rfl | rfl, ?_⟩
      refine ⟨by first | with_reducible rfl | rfl, ?_⟩
      refine ⟨by first | with_reducible rfl | rfl, ?_⟩
      refine ⟨by first | with_reducible rfl | rfl, ?_⟩
      refine ⟨by show v_9.fst < (oneV (8 : Int) b).toNat; omega, ?_⟩
      refine ⟨by first | omega | (dsimp only; omega), ?_⟩
      refine ⟨by show b.length ≤ (1000000 : Nat); assumption, ?_⟩
      refine ⟨by show r_76.length ≤ b.length; omega, ?_⟩
      refine ⟨by show v_9.snd.snd.snd.length = v_9.fst; omega, ?_⟩
      refine ⟨by exact ⟨by assumption, by assumption⟩, ?_⟩
      refine ⟨by exact ⟨by assumption, by assumption⟩, ?_⟩
      exact pa_mk h6.2.2.2.2.2 h38 h39 h40 h48 h49 h50
     refine ⟨by first | omega | (dsimp only; omega), ?_⟩
     refine ⟨by first | omega | (dsimp only; omega), ?_⟩
     intro v_83
     intro r_84
     intro bd_85
     intro h53
     intro h54
     intro h55
     intro ⟨a56, b56⟩
     intro h57
     refine ⟨by first | omega | (dsimp only; omega), ?_⟩
     refine ⟨by first | omega | (dsimp only; omega), ?_⟩
     intro v_91
     intro r_92
     intro bd_93
     intro h58
     intro h59
     intro h60
     intro ⟨a61, b61⟩
     intro h62
     refine ⟨(bd_93, r_92, v_9.snd.snd.snd, v_83, v_91), ?_⟩
     refine ⟨by first | with_reducible rfl | rfl, ?_⟩
     refine ⟨by first | with_reducible rfl | rfl, ?_⟩
     refine ⟨by first | with_reducible rfl | rfl, ?_⟩
     refine ⟨by first | with_reducible rfl | rfl, ?_⟩
     refine ⟨by first | with_reducible rfl | rfl, ?_⟩
     refine ⟨by first | with_reducible rfl | rfl, ?_⟩
     refine ⟨by first | with_reducible rfl | rfl, ?_⟩
     refine ⟨by first | with_reducible rfl | rfl, ?_⟩
     refine ⟨by first | with_reducible rfl | rfl, ?_⟩
     refine ⟨by first | with_reducible rfl | rfl, ?_⟩
     refine ⟨by first | with_reducible rfl | rfl, ?_⟩
     refine ⟨by first | with_reducible rfl | rfl, ?_⟩
     refine ⟨by first | with_reducible rfl | rfl, ?_⟩
     refine ⟨by first | with_reducible rfl | rfl, ?_⟩
     refine ⟨by first | with_reducible rfl | rfl, ?_⟩
     refine ⟨by show v_9.fst < (oneV (8 : Int) b).toNat; omega, ?_⟩
     refine ⟨by first | omega | (dsimp only; omega), ?_⟩
     refine ⟨by show b.length ≤ (1000000 : Nat); assumption, ?_⟩
     refine ⟨by show r_92.length ≤ b.length; omega, ?_⟩
     refine ⟨by show v_9.snd.snd.snd.length = v_9.fst; omega, ?_⟩
     refine ⟨by exact ⟨by assumption, by assumption⟩, ?_⟩
     refine ⟨by exact ⟨by assumption, by assumption⟩, ?_⟩
     exact pa_mk h6.2.2.2.2.2 h53 h54 h55 h58 h59 h60
    refine ⟨?_, ?_⟩
    ·
     refine ⟨by first | omega | (dsimp only; omega), ?_⟩
     refine ⟨by first | omega | (dsimp only; omega), ?_⟩
     intro v_99
     intro r_100
     intro bd_101
     intro h63
     intro h64
     intro h65
     intro ⟨a66, b66⟩
     intro h67
     refine ⟨by first | omega | (dsimp only; omega), ?_⟩
     refine ⟨by first | omega | (dsimp only; omega), ?_⟩
     intro v_107
     intro r_108
     intro bd_109
     intro h68
     intro h69
     intro h70
     intro ⟨a71, b71⟩
     intro h72
     refine ⟨(bd_109, r_108, v_9.snd.snd.snd, v_99, v_107), ?_⟩
     refine ⟨by first | with_reducible rfl | rfl, ?_⟩
     refine ⟨by first | with_reducible rfl | rfl, ?_⟩
     refine ⟨by first | with_reducible rfl | rfl, ?_⟩
     refine ⟨by first | with_reducible rfl | rfl, ?_⟩
     refine ⟨by first | with_reducible rfl | rfl, ?_⟩
     refine ⟨by first | with_reducible rfl | rfl, ?_⟩
     refine ⟨by first | with_reducible rfl | rfl, ?_⟩
     refine ⟨by first | with_reducible rfl | rfl, ?_⟩
     refine ⟨by first | with_reducible rfl | rfl, ?_⟩
     refine ⟨by first | with_reducible rfl | rfl, ?_⟩
     refine ⟨by first | with_reducible rfl | rfl, ?_⟩
     refine ⟨by first | with_reducible rfl | rfl, ?_⟩
     refine ⟨by first | with_reducible rfl | rfl, ?_⟩
     refine ⟨by first | with_reducible rfl | rfl, ?_⟩
     refine ⟨by first | with_reducible rfl | rfl, ?_⟩
     refine ⟨by show v_9.fst < (oneV (8 : Int) b).toNat; omega, ?_⟩
     refine ⟨by first | omega | (dsimp only; omega), ?_⟩
     refine ⟨by show b.length ≤ (1000000 : Nat); assumption, ?_⟩
     refine ⟨by show r_108.length ≤ b.length; omega, ?_⟩
     refine ⟨by show v_9.snd.snd.snd.length = v_9.fst; omega, ?_⟩
     refine ⟨by exact ⟨by assumption, by assumption⟩, ?_⟩
     refine ⟨by exact ⟨by assumption, by assumption⟩, ?_⟩
     exact pa_mk h6.2.2.2.2.2 h63 h64 h65 h68 h69 h70
    refine ⟨by first | omega | (dsimp only; omega), ?_⟩
    refine ⟨by first | omega | (dsimp only; omega), ?_⟩
    intro v_115
    intro r_116
    intro bd_117
    intro h73
    intro h74
    intro h75
    intro ⟨a76, b76⟩
    intro h77
    refine ⟨by first | omega | (dsimp only; omega), ?_⟩
    refine ⟨by first | omega | (dsimp only; omega), ?_⟩
    intro v_123
    intro r_124
    intro bd_125
    intro h78
    intro h79
    intro h80
    intro ⟨a81, b81⟩
    intro h82
    refine ⟨(bd_125, r_124, v_9.snd.snd.snd, v_115, v_123), ?_⟩
    refine ⟨by first | with_reducible rfl | rfl, ?_⟩
    refine ⟨by first | with_reducible rfl | rfl, ?_⟩
    refine ⟨by first | with_reducible rfl | rfl, ?_⟩
    refine ⟨by first | with_reducible rfl | rfl, ?_⟩
    refine ⟨by first | with_reducible rfl | rfl, ?_⟩
    refine ⟨by first | with_reducible rfl | rfl, ?_⟩
    refine ⟨by first | with_reducible rfl | rfl, ?_⟩
    refine ⟨by first | with_reducible rfl | rfl, ?_⟩
    refine ⟨by first | with_reducible rfl | rfl, ?_⟩
    refine ⟨by first | with_reducible rfl | rfl, ?_⟩
    refine ⟨by first | with_reducible rfl | rfl, ?_⟩
    refine ⟨by first | with_reducible rfl | rfl, ?_⟩
    refine ⟨by first | with_reducible rfl | rfl, ?_⟩
    refine ⟨by first | with_reducible rfl | rfl, ?_⟩
    refine ⟨by first | with_reducible rfl | rfl, ?_⟩
    refine ⟨by show v_9.fst < (oneV (8 : Int) b).toNat; omega, ?_⟩
    refine ⟨by first | omega | (dsimp only; omega), ?_⟩
    refine ⟨by show b.length ≤ (1000000 : Nat); assumption, ?_⟩
    refine ⟨by show r_124.length ≤ b.length; omega, ?_⟩
    refine ⟨by show v_9.snd.snd.snd.length = v_9.fst; omega, ?_⟩
    refine ⟨by exact ⟨by assumption, by assumption⟩, ?_⟩
    refine ⟨by exact ⟨by assumption, by assumption⟩, ?_⟩
    exact pa_mk h6.2.2.2.2.2 h73 h74 h75 h78 h79 h80
   refine ⟨?_, ?_⟩
   ·
    refine ⟨by first | omega | (dsimp only; omega), ?_⟩
    refine ⟨by first | omega | (dsimp only; omega), ?_⟩
    intro v_131
    intro r_132
    intro bd_133
    intro h83
    intro h84
    intro h85
    intro ⟨a86, b86⟩
    intro h87
    refine ⟨by first | omega | (dsimp only; omega), ?_⟩
    refine ⟨by first | omega | (dsimp only; omega), ?_⟩
    intro v_139
    intro r_140
    intro bd_141
    intro h88
    intro h89
    intro h90
    intro ⟨a91, b91⟩
    intro h92
    refine ⟨(bd_141, r_140, v_9.snd.snd.snd, v_131, v_139), ?_⟩
    refine ⟨by first | with_reducible rfl | rfl, ?_⟩
    refine ⟨by first | with_reducible rfl | rfl, ?_⟩
    refine ⟨by first | with_reducible rfl | rfl, ?_⟩
    refine ⟨by first | with_reducible rfl | rfl, ?_⟩
    refine ⟨by first | with_reducible rfl | rfl, ?_⟩
    refine ⟨by first | with_reducible rfl | rfl, ?_⟩
    refine ⟨by first | with_reducible rfl | rfl, ?_⟩
    refine ⟨by first | with_reducible rfl | rfl, ?_⟩
    refine ⟨by first | with_reducible rfl | rfl, ?_⟩
    refine ⟨by first | with_reducible rfl | rfl, ?_⟩
    refine ⟨by first | with_reducible rfl | rfl, ?_⟩
    refine ⟨by first | with_reducible rfl | rfl, ?_⟩
    refine ⟨by first | with_reducible rfl | rfl, ?_⟩
    refine ⟨by first | with_reducible rfl | rfl, ?_⟩
    refine ⟨by first | with_reducible rfl | rfl, ?_⟩
    refine ⟨by show v_9.fst < (oneV (8 : Int) b).toNat; omega, ?_⟩
    refine ⟨by first | omega | (dsimp only; omega), ?_⟩
    refine ⟨by show b.length ≤ (1000000 : Nat); assumption, ?_⟩
    refine ⟨by show r_140.length ≤ b.length; omega, ?_⟩
    refine ⟨by show v_9.snd.snd.snd.length = v_9.fst; omega, ?_⟩
    refine ⟨by exact ⟨by assumption, by assumption⟩, ?_⟩
    refine ⟨by exact ⟨by assumption, by assumption⟩, ?_⟩
    exact pa_mk h6.2.2.2.2.2 h83 h84 h85 h88 h89 h90
   refine ⟨?_, ?_⟩
   ·
    refine ⟨by first | omega | (dsimp only; omega), ?_⟩
    refine ⟨by first | omega | (dsimp only; omega), ?_⟩
    intro v_147
    intro r_148
    intro bd_149
    intro h93
    intro h94
    intro h95
    intro ⟨a96, b96⟩
    intro h97
    refine ⟨by first | omega | (dsimp only; omega), ?_⟩
    refine ⟨by first | omega | (dsimp only; omega), ?_⟩
    intro v_155
    intro r_156
    intro bd_157
    intro h98
    intro h99
    intro h100
    intro ⟨a101, b101⟩
    intro h102
    refine ⟨(bd_157, r_156, v_9.snd.snd.snd, v_147, v_155), ?_⟩
    refine ⟨by first | with_reducible rfl | rfl, ?_⟩
    refine ⟨by first | with_reducible rfl | rfl, ?_⟩
    refine ⟨by first | with_reducible rfl | rfl, ?_⟩
    refine ⟨by first | with_reducible rfl | rfl, ?_⟩
    refine ⟨by first | with_reducible rfl | rfl, ?_⟩
    refine ⟨by first | with_reducible rfl | rfl, ?_⟩
    refine ⟨by first | with_reducible rfl | rfl, ?_⟩
    refine ⟨by first | with_reducible rfl | rfl, ?_⟩
    refine ⟨by first | with_reducible rfl | rfl, ?_⟩
    refine ⟨by first | with_reducible rfl | rfl, ?_⟩
    refine ⟨by first | with_reducible rfl | rfl, ?_⟩
    refine ⟨by first | with_reducible rfl | rfl, ?_⟩
    refine ⟨by first | with_reducible rfl | rfl, ?_⟩
    refine ⟨by first | with_reducible rfl | rfl, ?_⟩
    refine ⟨by first | with_reducible rfl | rfl, ?_⟩
    refine ⟨by show v_9.fst < (oneV (8 : Int) b).toNat; omega, ?_⟩
    refine ⟨by first | omega | (dsimp only; omega), ?_⟩
    refine ⟨by show b.length ≤ (1000000 : Nat); assumption, ?_⟩
    refine ⟨by show r_156.length ≤ b.length; omega, ?_⟩
    refine ⟨by show v_9.snd.snd.snd.length = v_9.fst; omega, ?_⟩
    refine ⟨by exact ⟨by assumption, by assumption⟩, ?_⟩
    refine ⟨by exact ⟨by assumption, by assumption⟩, ?_⟩
    exact pa_mk h6.2.2.2.2.2 h93 h94 h95 h98 h99 h100
   refine ⟨by first | omega | (dsimp only; omega), ?_⟩
   refine ⟨by first | omega | (dsimp only; omega), ?_⟩
   intro v_163
   intro r_164
   intro bd_165
   intro h103
   intro h104
   intro h105
   intro ⟨a106, b106⟩
   intro h107
   refine ⟨by first | omega | (dsimp only; omega), ?_⟩
   refine ⟨by first | omega | (dsimp only; omega), ?_⟩
   intro v_171
   intro r_172
   intro bd_173
   intro h108
   intro h109
   intro h110
   intro ⟨a111, b111⟩
   intro h112
   refine ⟨(bd_173, r_172, v_9.snd.snd.snd, v_163, v_171), ?_⟩
   refine ⟨by first | with_reducible rfl | rfl, ?_⟩
   refine ⟨by first | with_reducible rfl | rfl, ?_⟩
   refine ⟨by first | with_reducible rfl | rfl, ?_⟩
   refine ⟨by first | with_reducible rfl | rfl, ?_⟩
   refine ⟨by first | with_reducible rfl | rfl, ?_⟩
   refine ⟨by first | with_reducible rfl | rfl, ?_⟩
   refine ⟨by first | with_reducible rfl | rfl, ?_⟩
   refine ⟨by first | with_reducible rfl | rfl, ?_⟩
   refine ⟨by first | with_reducible rfl | rfl, ?_⟩
   refine ⟨by first | with_reducible rfl | rfl, ?_⟩
   refine ⟨by first | with_reducible rfl | rfl, ?_⟩
   refine ⟨by first | with_reducible rfl | rfl, ?_⟩
   refine ⟨by first | with_reducible rfl | rfl, ?_⟩
   refine ⟨by first | with_reducible rfl | rfl, ?_⟩
   refine ⟨by first | with_reducible rfl | rfl, ?_⟩
   refine ⟨by show v_9.fst < (oneV (8 : Int) b).toNat; omega, ?_⟩
   refine ⟨by first | omega | (dsimp only; omega), ?_⟩
   refine ⟨by show b.length ≤ (1000000 : Nat); assumption, ?_⟩
   refine ⟨by show r_172.length ≤ b.length; omega, ?_⟩
   refine ⟨by show v_9.snd.snd.snd.length = v_9.fst; omega, ?_⟩
   refine ⟨by exact ⟨by assumption, by assumption⟩, ?_⟩
   refine ⟨by exact ⟨by assumption, by assumption⟩, ?_⟩
   exact pa_mk h6.2.2.2.2.2 h103 h104 h105 h108 h109 h110
  intro v_179
  intro h113
  refine ⟨?_, ?_⟩
  ·
   refine ⟨?_, ?_⟩
   ·
    refine ⟨by first | omega | (dsimp only; omega), ?_⟩
    refine ⟨by first | omega | (dsimp only; omega), ?_⟩
    intro v_181
    intro r_182
    intro bd_183
    intro h114
    intro h115
    intro h116
    intro ⟨a117, b117⟩
    intro h118
    refine ⟨by exact ⟨by assumption, by assumption⟩, ?_⟩
    refine ⟨by first | omega | (dsimp only; omega), ?_⟩
    intro ks_189
    intro q_190
    intro r_191
    intro bd_192
    intro h119
    intro h120
    intro h121
    intro h122
    refine ⟨by first | omega | (dsimp only; omega), ?_⟩
    intro z197
    intro qz197
    intro n199
    intro q199
    rw [IntKind.wrap_i64] at q199
    intro ⟨l199, u199⟩
    refine ⟨(v_9.fst + (1 : Nat), bd_192, r_191, z197), ?_⟩
    refine ⟨by first | with_reducible rfl | rfl, ?_⟩
    refine ⟨by first | with_reducible rfl | rfl, ?_⟩
    refine ⟨by first | with_reducible rfl | rfl, ?_⟩
    refine ⟨by show n199 = (↑(v_9.fst + (1 : Nat)) : Int); omega, ?_⟩
    refine ⟨by first | with_reducible rfl | rfl, ?_⟩
    refine ⟨by first | with_reducible rfl | rfl, ?_⟩
    refine ⟨by first | with_reducible rfl | rfl, ?_⟩
    refine ⟨by first | with_reducible rfl | rfl, ?_⟩
    refine ⟨by first | with_reducible rfl | rfl, ?_⟩
    refine ⟨by first | with_reducible rfl | rfl, ?_⟩
    refine ⟨by first | with_reducible rfl | rfl, ?_⟩
    refine ⟨by first | with_reducible rfl | rfl, ?_⟩
    refine ⟨by first | with_reducible rfl | rfl, ?_⟩
    refine ⟨?_, ?_⟩
    ·
     refine ⟨by show v_9.fst + (1 : Nat) ≤ (oneV (8 : Int) b).toNat; omega, ?_⟩
     refine ⟨by first | omega | (dsimp only; omega), ?_⟩
     refine ⟨by show b.length ≤ (1000000 : Nat); assumption, ?_⟩
     refine ⟨by show r_191.length ≤ b.length; omega, ?_⟩
     have h123 : z197.length = v_9.fst + (1 : Nat) := by
      exact (pl_app qz197 h113.2.2.2.2.1 h120).2
     refine ⟨h123, ?_⟩
     exact pa_step h113.2.2.2.2.2.2.2 rfl h113.1 h114 h115 h116 h119 (fun _ => rfl) (pl_app qz197 h113.2.2.2.2.1 h120).1
    exact by show (oneV (8 : Int) b).toNat - (v_9.fst + (1 : Nat)) < (oneV (8 : Int) b).toNat - v_9.fst; omega
   refine ⟨by first | omega | (dsimp only; omega), ?_⟩
   refine ⟨by first | omega | (dsimp only; omega), ?_⟩
   intro v_202
   intro r_203
   intro bd_204
   intro h124
   intro h125
   intro h126
   intro ⟨a127, b127⟩
   intro h128
   refine ⟨by exact ⟨by assumption, by assumption⟩, ?_⟩
   refine ⟨by first | omega | (dsimp only; omega), ?_⟩
   intro ks_210
   intro q_211
   intro r_212
   intro bd_213
   intro h129
   intro h130
   intro h131
   intro h132
   refine ⟨by first | omega | (dsimp only; omega), ?_⟩
   intro z218
   intro qz218
   intro n220
   intro q220
   rw [IntKind.wrap_i64] at q220
   intro ⟨l220, u220⟩
   refine ⟨(v_9.fst + (1 : Nat), bd_213, r_212, z218), ?_⟩
   refine ⟨by first | with_reducible rfl | rfl, ?_⟩
   refine ⟨by first | with_reducible rfl | rfl, ?_⟩
   refine ⟨by first | with_reducible rfl | rfl, ?_⟩
   refine ⟨by show n220 = (↑(v_9.fst + (1 : Nat)) : Int); omega, ?_⟩
   refine ⟨by first | with_reducible rfl | rfl, ?_⟩
   refine ⟨by first | with_reducible rfl | rfl, ?_⟩
   refine ⟨by first | with_reducible rfl | rfl, ?_⟩
   refine ⟨by first | with_reducible rfl | rfl, ?_⟩
   refine ⟨by first | with_reducible rfl | rfl, ?_⟩
   refine ⟨by first | with_reducible rfl | rfl, ?_⟩
   refine ⟨by first | with_reducible rfl | rfl, ?_⟩
   refine ⟨by first | with_reducible rfl | rfl, ?_⟩
   refine ⟨by first | with_reducible rfl | rfl, ?_⟩
   refine ⟨?_, ?_⟩
   ·
    refine ⟨by show v_9.fst + (1 : Nat) ≤ (oneV (8 : Int) b).toNat; omega, ?_⟩
    refine ⟨by first | omega | (dsimp only; omega), ?_⟩
    refine ⟨by show b.length ≤ (1000000 : Nat); assumption, ?_⟩
    refine ⟨by show r_212.length ≤ b.length; omega, ?_⟩
    have h133 : z218.length = v_9.fst + (1 : Nat) := by
     exact (pl_app qz218 h113.2.2.2.2.1 h130).2
    refine ⟨h133, ?_⟩
    exact pa_step h113.2.2.2.2.2.2.2 rfl h113.1 h124 h125 h126 h129 (fun _ => rfl) (pl_app qz218 h113.2.2.2.2.1 h130).1
   exact by show (oneV (8 : Int) b).toNat - (v_9.fst + (1 : Nat)) < (oneV (8 : Int) b).toNat - v_9.fst; omega
  refine ⟨by first | omega | (dsimp only; omega), ?_⟩
  refine ⟨by first | omega | (dsimp only; omega), ?_⟩
  intro v_223
  intro r_224
  intro bd_225
  intro h134
  intro h135
  intro h136
  intro ⟨a137, b137⟩
  intro h138
  refine ⟨by exact ⟨by assumption, by assumption⟩, ?_⟩
  refine ⟨by first | omega | (dsimp only; omega), ?_⟩
  intro ks_231
  intro q_232
  intro r_233
  intro bd_234
  intro h139
  intro h140
  intro h141
  intro h142
  refine ⟨by first | omega | (dsimp only; omega), ?_⟩
  intro z239
  intro qz239
  intro n241
  intro q241
  rw [IntKind.wrap_i64] at q241
  intro ⟨l241, u241⟩
  refine ⟨(v_9.fst + (1 : Nat), bd_234, r_233, z239), ?_⟩
  refine ⟨by first | with_reducible rfl | rfl, ?_⟩
  refine ⟨by first | with_reducible rfl | rfl, ?_⟩
  refine ⟨by first | with_reducible rfl | rfl, ?_⟩
  refine ⟨by show n241 = (↑(v_9.fst + (1 : Nat)) : Int); omega, ?_⟩
  refine ⟨by first | with_reducible rfl | rfl, ?_⟩
  refine ⟨by first | with_reducible rfl | rfl, ?_⟩
  refine ⟨by first | with_reducible rfl | rfl, ?_⟩
  refine ⟨by first | with_reducible rfl | rfl, ?_⟩
  refine ⟨by first | with_reducible rfl | rfl, ?_⟩
  refine ⟨by first | with_reducible rfl | rfl, ?_⟩
  refine ⟨by first | with_reducible rfl | rfl, ?_⟩
  refine ⟨by first | with_reducible rfl | rfl, ?_⟩
  refine ⟨by first | with_reducible rfl | rfl, ?_⟩
  refine ⟨?_, ?_⟩
  ·
   refine ⟨by show v_9.fst + (1 : Nat) ≤ (oneV (8 : Int) b).toNat; omega, ?_⟩
   refine ⟨by first | omega | (dsimp only; omega), ?_⟩
   refine ⟨by show b.length ≤ (1000000 : Nat); assumption, ?_⟩
   refine ⟨by show r_233.length ≤ b.length; omega, ?_⟩
   have h143 : z239.length = v_9.fst + (1 : Nat) := by
    exact (pl_app qz239 h113.2.2.2.2.1 h140).2
   refine ⟨h143, ?_⟩
   exact pa_step h113.2.2.2.2.2.2.2 rfl h113.1 h134 h135 h136 h139 (fun _ => rfl) (pl_app qz239 h113.2.2.2.2.1 h140).1
  exact by show (oneV (8 : Int) b).toNat - (v_9.fst + (1 : Nat)) < (oneV (8 : Int) b).toNat - v_9.fst; omega
 ·
  have e : v_9.fst = (oneV 8 b).toNat := by omega
  have t := h6.2.2.2.2.2
  rw [e] at t
  exact hk _ _ _ _ t h6.2.2.2.2.1 (by omega) h6.2.2.2.1

theorem plans_ok : Holds Try.prog 81 plansS := by
  refine fn_soundB (env := mkEnv K2) (tab_ok K2_ok) Try.func81 Try.call81 (fun args B k h => ?_) (by decide)
  unfold plansS at h
  dsimp only at h
  split at h
  · rename_i b
    exact ⟨by kernel_rfl, plansLoops b, plansCuts b, .cast (by kernel_rfl) (plans_vc b h.1 k h.2)⟩
  · exact h.elim
end Go.Proofs.Ytcdflgfhkohldaa

