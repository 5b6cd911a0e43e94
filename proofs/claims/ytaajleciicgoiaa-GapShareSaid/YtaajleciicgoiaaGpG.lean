import Derived.Test.YtaajleciicgoiaaGpE
import Derived.Test.YtaajleciicgoiaaGpH
namespace Go.Proofs.Ytaajleciicgoiaa
open Go Go.Eng Go.Fx Go.Proofs
set_option linter.unusedVariables false
def lawBools : Eng.Spec := { ro := true, own := [], run := fun args _ k => match args with
  | [.sl 4 xs] => k (.bool true) [] []
  | _ => False }
def lawBools1 : Eng.Spec := { ro := true, own := [], run := fun args _ k => match args with
  | [.sl 4 xs, .int .i64 a] => inK .i64 a ∧ k (.bool true) [] []
  | _ => False }
def lawBools2 : Eng.Spec := { ro := true, own := [], run := fun args _ k => match args with
  | [.sl 4 xs, .int .i64 a, .int .i64 b] => inK .i64 a ∧ inK .i64 b ∧ k (.bool true) [] []
  | _ => False }
def runsLoops (xs : List Bool) : List Nat → Nat → Option LoopAnn := fun _ r => match r with
  | 11 => some { V := Int × Int × Int, st := fun v => ⟨mk 121 [(0, .sl 4 xs), (3, .bool true), (4, .ptr 7005 0), (6, .int .i64 v.2.1), (7, .int .i64 v.2.2), (8, .int .i64 v.1)], [], [(7005, .cells [.bool (gS xs).1, .int .i64 (gS xs).2.1, .int .i64 (gS xs).2.2.1, .int .i64 (gS xs).2.2.2.1, .int .u64 (gS xs).2.2.2.2])]⟩, I := fun v => (0 ≤ v.1 ∧ v.1 ≤ xs.length) ∧ (0 ≤ v.2.1 ∧ v.2.1 ≤ v.1) ∧ (0 ≤ v.2.2 ∧ v.2.2 ≤ v.1) ∧ (v.2.1 = (rS (xs.take v.1.toNat)).2.1 ∧ v.2.2 = (rS (xs.take v.1.toNat)).2.2), μ := fun v => (xs.length - v.1).toNat }
  | _ => none
end Go.Proofs.Ytaajleciicgoiaa

