import Derived.Test.YtcnnbofjgmohaaaDoorTz
namespace Go.Proofs.YtcnnbofjgmohaaaDoor
open Go Go.Eng Go.Proofs
set_option linter.unusedVariables false
def lown2 : FuncId → Option Eng.Spec := fun f => match f with
  | 25 => some tzL
  | f => lown f
theorem lown2_ok : ∀ f s, lown2 f = some s → Holds Tryd.prog f s := fun f s h => by
  unfold lown2 at h
  split at h
  · cases h; exact tz_lit
  · exact lown_ok _ _ h
noncomputable def lenv2 : Env := lenvOf lown2
theorem lenv2_ok : ∀ f s, lenv2.spec f = some s → Holds Tryd.prog f s := litEnv_ok lown2_ok linl_ok 12
end Go.Proofs.YtcnnbofjgmohaaaDoor

