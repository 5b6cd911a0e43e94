import Derived.Test.YtilbglkpbjamfaaFrC
namespace Go.Proofs.Ytilbglkpbjamfaa
open Go Go.Eng Go.Rw Go.Fr Go.Proofs
set_option linter.unusedVariables false
/-- The same, for the kernel's reckoning. -/
def insideL : Eng.Spec := { ro := true, own := [], run := fun args _ k => match args with
  | [.agg [.int .u8 kd, .int .u32 sq, bo]] => match nilB bo with
    | .sl 0 bo => match Nat.ble bo.length 512, decide (0 ≤ kd) && decide (kd ≤ 255) && decide (0 ≤ sq) && decide (sq ≤ 4294967295) with
      | true, true => forceL 0 (ins kd sq bo) fun ys => forceN ys.length fun n => k (.tup [.row 0 0 0 n, .int .i64 0]) [] [.row 0 ys]
      | false, true => k (.tup [.nilsl, .int .i64 3]) [] []
      | _, _ => False
    | _ => False
  | _ => False }
def aggB : List AV → List AV
  | [.agg [a, b, c]] => [.agg [a, b, nilB c]]
  | l => l
theorem aggB_len (l : List AV) : (aggB l).length = l.length := by unfold aggB; split <;> rfl
theorem aggB_rep (w : World) (im : Nat → Prop) (ρ : Ids) (v : Value) (l : List AV) (j : Nat) (h : Rep w im ρ v (nth l j)) : Rep w im ρ v (nth (aggB l) j) := by
  unfold aggB
  split
  · match j with
    | 0 =>
      obtain ⟨vs, rfl, h1, h2, h3⟩ := (show Rep w im ρ v (.agg _) from h).inv_agg
      refine .agg h1 h2 fun i u hu => ?_
      have h4 := h3 i u hu
      match i with
      | 0 => exact h4
      | 1 => exact h4
      | 2 => exact nilB_rep h4
      | i + 3 => exact h4
    | j + 1 => exact h
  · exact h
theorem forceL_ok0 {l : List UInt8} {k : List UInt8 → Prop} (h : forceL 0 l k) : k l := forceL_ok (c := 0) h
theorem inside_lit : Holds Try.prog 10 insideL := by
  have h1 := inside_ok.argUp aggB aggB_len aggB_rep
  refine h1.up (fun r => r) (fun _ _ _ _ _ h => h) rfl rfl rfl fun args k h => ?_
  show insideS.run (aggB args) [] _
  unfold insideL at h
  dsimp only at h
  split at h
  · rename_i kd sq bo
    show insideS.run [.agg [.int .u8 kd, .int .u32 sq, nilB bo]] [] _
    split at h
    · rename_i e1
      rw [e1]
      split at h
      · rename_i c1 c2
        simp only [Bool.and_eq_true, decide_eq_true_eq] at c2
        have c1 := Nat.le_of_ble_eq_true c1
        have h := forceL_ok0 h
        have h := forceN_ok (k := fun n => k (.tup [.row 0 0 0 n, .int .i64 0]) [] [.row 0 _]) h
        exact ⟨⟨c2.1.1.1, c2.1.1.2⟩, ⟨c2.1.2, c2.2⟩, fun c => by omega, fun _ ys n hy hn => by subst hy; subst hn; exact h⟩
      · rename_i c1 c2
        simp only [Bool.and_eq_true, decide_eq_true_eq] at c2
        refine ⟨⟨c2.1.1.1, c2.1.1.2⟩, ⟨c2.1.2, c2.2⟩, fun _ => h, fun c => ?_⟩
        rw [Nat.ble_eq_true_of_le c] at c1; cases c1
      · exact h.elim
    · exact h.elim
  · exact h.elim
def lown2 : FuncId → Option Eng.Spec := fun f => match f with
  | 10 => some insideL
  | _ => none
theorem lown2_ok : ∀ f s, lown2 f = some s → Holds Try.prog f s := fun f s h => by
  unfold lown2 at h
  split at h
  · cases h; exact inside_lit
  · cases h
noncomputable def lenv2 : Env := lenvOf lown2
theorem lenv2_ok : ∀ f s, lenv2.spec f = some s → Holds Try.prog f s := litEnv_ok lown2_ok linl_ok 12
end Go.Proofs.Ytilbglkpbjamfaa

