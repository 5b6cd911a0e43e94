import Derived.Test.YtcccenipmefkiaaRwF
namespace Go.Proofs.Ytcccenipmefkiaa
open Go Go.Eng Go.Rw Go.Proofs
set_option linter.unusedVariables false
def numLoops (n : Int) : List Nat → Nat → Option LoopAnn := fun _ r => match r with
  | 14 => some { V := Nat × Nat × List UInt8, st := fun v => ⟨mk 126 [(0, .int .u64 n), (22, .row 0 11001 0 v.2.1), (23, .int .i64 v.1)], [], [(11001, .row 0 v.2.2)]⟩, I := fun v => v.1 ≤ v.2.1 ∧ v.2.2.length = v.2.1 ∧ v.2.1 ≤ 10, μ := fun v => v.2.1 - v.1 }
  | _ => none
end Go.Proofs.Ytcccenipmefkiaa

