import Derived.Test.YtaajleciicgoiaaGpG
import Derived.Test.YtaajleciicgoiaaGpJ
namespace Go.Proofs.Ytaajleciicgoiaa
open Go Go.Eng Go.Fx Go.Proofs
set_option linter.unusedVariables false
abbrev paVx (xs : List Bool) (w : Int) : Bool := paV (gS xs).1 (gS xs).2.1 (gS xs).2.2.1 (gS xs).2.2.2.1 (gS xs).2.2.2.2 w
abbrev paEx (xs : List Bool) (w : Int) : Int := paE (gS xs).1 (gS xs).2.1 (gS xs).2.2.1 (gS xs).2.2.2.1 (gS xs).2.2.2.2 w
abbrev shVx (xs : List Bool) (w : Int) : Int := shV (gS xs).1 (gS xs).2.1 (gS xs).2.2.1 (gS xs).2.2.2.1 (gS xs).2.2.2.2 w
abbrev shEx (xs : List Bool) (w : Int) : Int := shE (gS xs).1 (gS xs).2.1 (gS xs).2.2.1 (gS xs).2.2.2.1 (gS xs).2.2.2.2 w
def pastLoops (xs : List Bool) (long short : Int) : List Nat → Nat → Option LoopAnn := fun _ r => match r with
  | 11 => some { V := Int × Int, st := fun v => ⟨mk 121 [(0, .sl 4 xs), (1, .int .i64 long), (2, .int .i64 short), (7, .bool true), (9, .bool true), (10, .bool (paVx xs long)), (11, .int .i64 (paEx xs long)), (12, .bool (paVx xs short)), (13, .int .i64 (paEx xs short)), (14, .int .i64 v.1), (15, .int .i64 v.2)], [], []⟩, I := fun v => (-1 ≤ v.2 ∧ v.2 < xs.length) ∧ v.1 = xs.length - 1 - v.2 ∧ allF xs v.2, μ := fun v => (v.2 + 1).toNat }
  | _ => none
def shareLoops (xs : List Bool) (w : Int) : List Nat → Nat → Option LoopAnn := fun _ r => match r with
  | 10 => some { V := Int × Int, st := fun v => ⟨mk 90 [(0, .sl 4 xs), (1, .int .i64 w), (5, .bool true), (7, .bool true), (8, .int .i64 (shVx xs w)), (9, .int .i64 (shEx xs w)), (10, .int .i64 v.1), (11, .int .i64 v.2)], [], []⟩, I := fun v => (max 0 ((xs.length : Int) - w) ≤ v.2 ∧ v.2 ≤ xs.length) ∧ (0 ≤ v.1 ∧ v.1 ≤ v.2) ∧ v.1 = trI xs (max 0 ((xs.length : Int) - w)) v.2, μ := fun v => (xs.length - v.2).toNat }
  | _ => none
end Go.Proofs.Ytaajleciicgoiaa

