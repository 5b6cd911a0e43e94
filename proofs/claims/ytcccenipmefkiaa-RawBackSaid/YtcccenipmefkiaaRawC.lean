import Derived.Test.YtcccenipmefkiaaRawB
import Derived.Test.YtcccenipmefkiaaEngR
namespace Go.Proofs.Ytcccenipmefkiaa
open Go Go.Eng Go.Proofs
def nilS (s : Eng.Spec) : Eng.Spec := { s with run := fun args B k => s.run (args.map nilB) B k }
theorem nilS_ok {P : Program} {f : FuncId} {s : Eng.Spec} (h : Holds P f s) : Holds P f (nilS s) := h.nil
noncomputable def base4 : Env := { base with spec := fun f => match f with | 9 => some (nilS sumS) | 12 => some aliveS | 13 => some smallS | 14 => some putS | 16 => some (nilS getS) | 18 => some (nilS readS) | 21 => some (nilS sameS) | _ => none }
theorem base4_ok : ∀ f s, base4.spec f = some s → Holds base4.P f s := by
  intro f s h
  simp only [base4] at h
  split at h
  · cases h; exact nilS_ok sum_ok
  · cases h; exact alive_ok
  · cases h; exact small_ok
  · cases h; exact put_ok
  · cases h; exact nilS_ok get_ok
  · cases h; exact nilS_ok read_ok
  · cases h; exact nilS_ok same3_ok
  · cases h
end Go.Proofs.Ytcccenipmefkiaa
