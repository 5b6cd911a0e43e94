import Derived.Test.YtilbglkpbjamfaaFrD
import Derived.Test.YtilbglkpbjamfaaFrE
namespace Go.Proofs.Ytilbglkpbjamfaa
open Go Go.Eng Go.Rw Go.Fr Go.Proofs
set_option linter.unusedVariables false
theorem alive_ok : Holds Try.prog 27 trueS := by
  refine fn_sound (env := lenv2) lenv2_ok Try.func27 Try.call27 fun args k h => ?_
  match args, h with
  | [], h => exact ⟨by kernel_rfl, fun _ _ => none, fun _ _ => none, .cast (by kernel_rfl) h⟩
structure eqM (a b : List Msg) : Prop where
  e : a = b
def sameS : Eng.Spec := { ro := true, own := [], run := fun args _ k => match args with
  | [.sl 8 a, .sl 8 b] => ∀ r : Bool, (eqM a b → r = true) → k (.bool r) [] []
  | _ => False }
def sameLoops (a b : List Msg) : List Nat → Nat → Option LoopAnn := fun _ r => match r with
  | 4 => some { V := Int, st := fun v => ⟨mk 56 [(0, .sl 8 a), (1, .sl 8 b), (5, .int .i64 v)], [], []⟩, I := fun v => (0 ≤ v ∧ v ≤ a.length) ∧ a.length = b.length, μ := fun v => (a.length - v).toNat }
  | _ => none
end Go.Proofs.Ytilbglkpbjamfaa

