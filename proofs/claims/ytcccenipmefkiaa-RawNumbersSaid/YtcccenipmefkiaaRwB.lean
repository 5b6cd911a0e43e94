import Derived.Test.YtcccenipmefkiaaEngW
import Derived.Test.YtcccenipmefkiaaRwA
import Derived.Test.YtcccenipmefkiaaLit
namespace Go.Proofs.Ytcccenipmefkiaa
open Go Go.Eng Go.Rw Go.Proofs
set_option linter.unusedVariables false
noncomputable def mkEnv (T : Tab) : Env := mkE Try.prog tyC T
def T0 : Tab := []
theorem T0_ok : TabOk Try.prog T0 := trivial
def smallS : Eng.Spec := { ro := true, own := [], run := fun args _ k => match args with
  | [.int .u64 n] => inK .u64 n ∧ ∀ (ys : List UInt8) (q : Nat), ys = smallL n.toNat → ys.length = q → q ≤ 10 → k (.row 0 0 0 q) [] [.row 0 ys]
  | _ => False }
def smallLoops (n : Int) : List Nat → Nat → Option LoopAnn := fun _ r => match r with
  | 2 => some { V := Nat × Nat × List UInt8, st := fun v => ⟨mk 19 [(0, .int .u64 v.1), (3, .row 0 7777 0 v.2.1)], [], [(7777, .row 0 v.2.2)]⟩,
                I := fun v => v.2.2.length = v.2.1 ∧ v.2.1 < 10 ∧ v.1 < 2 ^ (64 - 7 * v.2.1) ∧ v.2.2 ++ smallF (10 - v.2.1) v.1 = smallL n.toNat, μ := fun v => 10 - v.2.1, boxes := [(3, 7777, 0)] }
  | _ => none
def readS : Eng.Spec := { ro := true, own := [], run := fun args _ k => match args with
  | [.sl 0 xs] => xs.length ≤ 1000000 ∧ ∀ (a b c : Int), a = (readG 0 0 xs).1 → b = (readG 0 0 xs).2.1 → c = (readG 0 0 xs).2.2 → inK .u64 a → (0 ≤ b ∧ b ≤ 10) → (c = 0 ∨ c = 8) → k (.tup [.int .u64 a, .int .i64 b, .int .i64 c]) [] []
  | _ => False }
def readLoops (xs : List UInt8) : List Nat → Nat → Option LoopAnn := fun _ r => match r with
  | 3 => some { V := Nat × Nat, st := fun v => ⟨mk 41 [(5, .int .u64 v.2), (8, .sl 0 xs), (9, .int .i64 xs.length), (10, .int .i64 v.1)], [], []⟩,
                I := fun v => v.1 ≤ xs.length ∧ v.1 ≤ 9 ∧ v.2 < 128 ^ v.1 ∧ readG v.1 v.2 (xs.drop v.1) = readG 0 0 xs, μ := fun v => xs.length - v.1 }
  | _ => none
def sameS : Eng.Spec := { ro := true, own := [], run := fun args _ k => match args with
  | [.sl 0 a, .sl 0 b] => ∀ r : Bool, (r = true ↔ a = b) → k (.bool r) [] []
  | _ => False }
def lawB : Eng.Spec := { ro := true, own := [], run := fun args _ k => match args with
  | [.sl 0 xs] => k (.bool true) [] []
  | _ => False }
end Go.Proofs.Ytcccenipmefkiaa

