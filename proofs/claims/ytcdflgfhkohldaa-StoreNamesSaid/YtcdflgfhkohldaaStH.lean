import Derived.Test.YtcdflgfhkohldaaStG
import Derived.Test.YtcdflgfhkohldaaStM
namespace Go.Proofs.Ytcdflgfhkohldaa
open Go Go.Eng Go.Rw Go.Lk Go.Proofs
open Go.Bk hiding take_step drop_step set_mid
open Go.St hiding take_step
set_option linter.unusedVariables false
/-- Bytes joined. -/
def joinS : Eng.Spec := { ro := true, own := [], run := fun args _ k => match args with
  | [.sl 6 l, .nilsl] => (2 ≤ l.length ∧ l.length ≤ 1000 ∧ l.flatten.length ≤ 100000) ∧ ∀ (ys : List UInt8) (n : Nat), ys = l.flatten → ys.length = n → k (.row 0 0 0 n) [] [.row 0 ys]
  | _ => False }
def joinLoops (l : List (List UInt8)) : List Nat → Nat → Option LoopAnn := fun _ r => match r with
  | 11 => some { V := Nat × Int, st := fun v => ⟨mk 92 [(0, .sl 6 l), (1, .nilsl), (5, .int .i64 v.2), (42, .sl 6 l), (43, .int .i64 l.length), (44, .int .i64 v.1)], [], []⟩, I := fun v => v.1 ≤ l.length ∧ (0 ≤ v.2 ∧ v.2 ≤ 100000) ∧ v.2 = (catL l v.1).length, μ := fun v => l.length - v.1 }
  | 20 => some { V := Nat × Int × List UInt8, st := fun v => ⟨mk 92 [(1, .nilsl), (8, .row 0 18001 0 l.flatten.length), (9, .int .i64 v.2.1), (70, .sl 6 (l.drop 1)), (71, .int .i64 (l.drop 1).length), (72, .int .i64 v.1)], [], [(18001, .row 0 v.2.2)]⟩, I := fun v => v.1 ≤ (l.drop 1).length ∧ (0 ≤ v.2.1 ∧ v.2.1 ≤ 100000) ∧ v.2.1 = (catL l (v.1 + 1)).length ∧ v.2.2.length = l.flatten.length ∧ JO l (v.1 + 1) v.2.2, μ := fun v => (l.drop 1).length - v.1 }
  | _ => none
def H1 : Tab := [(61, mnzS)]
theorem H1_ok : TabOk Try.prog H1 := ⟨mnz_ok, trivial⟩
end Go.Proofs.Ytcdflgfhkohldaa

