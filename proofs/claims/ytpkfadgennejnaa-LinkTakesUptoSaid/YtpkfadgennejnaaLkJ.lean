import Derived.Test.YtpkfadgennejnaaLkF
import Derived.Test.YtpkfadgennejnaaEngY
namespace Go.Proofs.Ytpkfadgennejnaa
open Go Go.Eng Go.Lk Go.Proofs
set_option linter.unusedVariables false
/-- What is answered is written no more. -/
def nextZ : Eng.Spec := { ro := false, own := [], run := fun args _ k => match args with
  | [.agg [.bool an, .int .u32 la, .int .i64 ag], .sl 8 got] => inK .u32 la ∧ inK .i64 ag ∧ ∀ (e : Int) (b : Bool) (l a : Int) (ys : List Msg), e = lE an la ag got → (e ≠ 0 → ys = []) → (e = 0 → (b, l) = stk (an, la) got ∧ ys = tk (an, la) got ∧ a = ageN ag ys.length) → (0 ≤ l ∧ l ≤ 4294967295) → (-9223372036854775808 ≤ a ∧ a ≤ 9223372036854775807) → k (.tup [.agg [.bool b, .int .u32 l, .int .i64 a], .sl 8 ys, .int .i64 e]) [] []
  | _ => False }
theorem nextZ_ok : Holds Try.prog 12 nextZ := by
  have h2 := Holds.fzA (t := { ro := false, own := [], run := fun args B k => nextS.run args B (fzA k) }) next_ok rfl rfl rfl fun _ _ h => h
  refine h2.up (tupC 1 8) (fun _ _ _ _ _ h => tupC_rep h) rfl rfl rfl fun args k h => ?_
  show nextS.run args [] _
  unfold nextZ at h
  dsimp only at h
  split at h
  · rename_i an la ag got
    obtain ⟨a1, a2, h⟩ := h
    refine ⟨a1, a2, fun e he h0 => ?_, fun h0 b l a ys n hb hl hy hn ha => ?_⟩
    · show k (.tup [.agg [.bool false, .int .u32 0, .int .i64 0], .sl 8 [], .int .i64 e]) [] []
      exact h e false 0 0 [] he (fun _ => rfl) (fun c => absurd c h0) (by omega) (by omega)
    · show k (.tup [.agg [.bool b, .int .u32 l, .int .i64 a], .sl 8 ((ys.drop 0).take n), .int .i64 0]) [] []
      rw [List.drop_zero, ← hn, List.take_length]
      have := (lE_nb h0)
      have g := ageN_in (n := n) ⟨this.1, this.2.1⟩
      exact h 0 b l a ys h0.symm (fun c => absurd rfl c) (fun _ => ⟨hb, hy, by rw [ha, hn]⟩) hl (by omega)
  · exact h.elim
def heavyS : Eng.Spec := { ro := true, own := [], run := fun args _ k => match args with
  | [.sl 8 got] => got.length ≤ 1048576 ∧ ∀ b : Bool, k (.bool b) [] []
  | _ => False }
def heavyLoops (got : List Msg) : List Nat → Nat → Option LoopAnn := fun _ r => match r with
  | 3 => some { V := Int × Int, st := fun v => ⟨mk 27 [(0, .sl 8 got), (3, .int .i64 v.2), (4, .int .i64 v.1)], [], []⟩, I := fun v => (0 ≤ v.1 ∧ v.1 ≤ got.length) ∧ (0 ≤ v.2 ∧ v.2 ≤ 100000 * v.1) ∧ got.length ≤ 1048576, μ := fun v => (got.length - v.1).toNat }
  | _ => none
end Go.Proofs.Ytpkfadgennejnaa

