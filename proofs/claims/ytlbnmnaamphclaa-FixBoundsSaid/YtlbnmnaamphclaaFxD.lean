import Derived.Test.YtlbnmnaamphclaaFxC
namespace Go.Proofs.Ytlbnmnaamphclaa
open Go Go.Eng Go.Fx Go.Proofs
set_option linter.unusedVariables false
def withinS : Eng.Spec := { ro := true, own := [], run := fun args _ k => match args with
  | [.int .i64 a] => inK .i64 a ∧ k (.bool (decide (-70368744177664 ≤ a ∧ a ≤ 70368744177664))) [] []
  | _ => False }
theorem alive_ok : Holds Try.prog 27 trueS := by
  refine fn_sound (env := lenv) lenv_ok Try.func27 Try.call27 fun args k h => ?_
  match args, h with
  | [], h => exact ⟨by kernel_rfl, fun _ _ => none, fun _ _ => none, .cast (by kernel_rfl) h⟩

def T2 : Tab := [(27, trueS), (28, withinS), (21, s2 addI BD), (23, s2 subI BD), (22, s2 addI BD), (24, s2 subI BD), (11, s1 ofI BD), (12, s1 ofI BD), (13, s1 roundI fun r => -1073741824 ≤ r ∧ r ≤ 1073741824), (14, s1 roundI fun r => -1073741824 ≤ r ∧ r ≤ 1073741824), (19, divS), (20, divS), (25, s2 mulI BD), (26, s2 mulI BD), (17, s3 mixI BD), (18, s3 mixI BD), (15, s3 clampI fun _ => True), (16, s3 clampI fun _ => True)]
end Go.Proofs.Ytlbnmnaamphclaa

