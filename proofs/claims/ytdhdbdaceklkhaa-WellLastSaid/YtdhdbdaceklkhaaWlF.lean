import Derived.Test.YtdhdbdaceklkhaaWlC
import Derived.Test.YtdhdbdaceklkhaaWlE
namespace Go.Proofs.Ytdhdbdaceklkhaa
open Go Go.Eng Go.Fx Go.Proofs
set_option linter.unusedVariables false
def behindS : Eng.Spec := { ro := true, own := [], run := fun args _ k => match args with
  | [.agg [.int .u64 b], .sl 4 xs] => inK .u64 b ∧ ∀ r : Int, r = wF b xs → (0 ≤ r ∧ r ≤ 18446744073709551615) → k (.agg [.int .u64 r]) [] []
  | _ => False }
def lawLast : Eng.Spec := { ro := true, own := [], run := fun args _ k => match args with
  | [.agg [.int .u64 b], .sl 4 xs, .int .i64 w] => inK .u64 b ∧ inK .i64 w ∧ k (.bool true) [] []
  | _ => False }
def behindLoops (b : Int) (xs : List Bool) : List Nat → Nat → Option LoopAnn := fun _ r => match r with
  | 2 => some { V := Int × Int, st := fun v => ⟨mk 19 [(1, .sl 4 xs), (2, .ptr 1000 0), (4, .ptr 1001 0), (5, .int .i64 v.1)], [], [(1000, .cells [.int .u64 v.2]), (1001, .cells [.int .u64 0])]⟩, I := fun v => (0 ≤ v.1 ∧ v.1 ≤ xs.length) ∧ (0 ≤ v.2 ∧ v.2 ≤ 18446744073709551615) ∧ v.2 = wF b (xs.take v.1.toNat), μ := fun v => (xs.length - v.1).toNat }
  | _ => none
def lastLoops (b : Int) (xs : List Bool) (w : Int) : List Nat → Nat → Option LoopAnn := fun _ r => match r with
  | 10 => some { V := Int × Int, st := fun v => ⟨mk 114 [(1, .sl 4 xs), (2, .int .i64 w), (3, .ptr 1000 0), (7, .bool true), (8, .ptr 7003 0), (9, .int .i64 (wS (wF b xs) w)), (10, .int .i64 (wE w)), (11, .int .i64 v.1), (12, .int .i64 v.2)], [], [(1000, .cells [.int .u64 b]), (7003, .cells [.int .u64 (wF b xs)])]⟩, I := fun v => (0 ≤ v.2 ∧ v.2 ≤ w) ∧ (0 ≤ v.1 ∧ v.1 ≤ v.2) ∧ v.1 = cnt v.2.toNat (wF b xs), μ := fun v => (w - v.2).toNat }
  | _ => none
def T6 : Tab := (8, behindS) :: T5
end Go.Proofs.Ytdhdbdaceklkhaa

