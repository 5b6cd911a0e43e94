import Derived.Test.YtcccenipmefkiaaRaw6
namespace Go.Proofs.Ytcccenipmefkiaa
open Go Go.Eng Go.Proofs
/-- How many sevenths. -/
def shortLoops (n : Int) : List Nat → Nat → Option LoopAnn := fun _ r => match r with
  | 6 => some { V := Nat × Nat, st := fun v => ⟨mk 35 [(0, .int .u64 n), (3, .bool true), (4, .int .i64 v.1), (5, .int .u64 v.2)], [], []⟩,
                I := fun v => 1 ≤ v.1 ∧ v.1 ≤ 10 ∧ v.2 = n.toNat / 128 ^ v.1 ∧ (1 < v.1 → 0 < n.toNat / 128 ^ (v.1 - 1)), μ := fun v => v.2 }
  | _ => none
end Go.Proofs.Ytcccenipmefkiaa
