import Derived.Test.YtkcnpemaocdnkaaEngW
import Derived.Test.YtkcnpemaocdnkaaWrA
import Derived.Test.YtkcnpemaocdnkaaLit
namespace Go.Proofs.Ytkcnpemaocdnkaa
open Go Go.Eng Go.Wr Go.Proofs
set_option linter.unusedVariables false
noncomputable def mkEnv (T : Tab) : Env := mkE Try.prog tyC T
def T0 : Tab := []
theorem T0_ok : TabOk Try.prog T0 := trivial
def clone0S : Eng.Spec := { ro := true, own := [], run := fun args _ k => match args with
  | [.sl 0 xs] => xs.length ≤ 1000000 ∧ (xs = [] → k .nilsl [] []) ∧ k (.row 0 0 0 xs.length) [] [.row 0 xs]
  | _ => False }
def cloneS : Eng.Spec := { ro := true, own := [], run := fun args _ k => match args with
  | [.sl 0 xs] => xs.length ≤ 1000000 ∧ k (.row 0 0 0 xs.length) [] [.row 0 xs]
  | _ => False }
def T1 : Tab := [(18, cloneS)]
def nextS : Eng.Spec := { ro := true, own := [], run := fun args _ k => match args with
  | [.sl 0 held, .sl 0 ins, .int .u8 what, .int .i64 p] => inK .u8 what ∧ inK .i64 p ∧ (∀ e : Int, e = wE held.length ins.length what p → (e = 2 ∨ e = 3) → k (.tup [.nilsl, .nilsl, .int .i64 e]) [] []) ∧ (wE held.length ins.length what p = 0 → what = 3 → k (.tup [.row 0 0 0 held.length, .row 0 1 0 ins.length, .int .i64 0]) [] [.row 0 held, .row 0 ins]) ∧ (wE held.length ins.length what p = 0 → what ≠ 3 → ∀ (ys : List UInt8) (n : Nat), ys = held ++ wOut ins what p → ys.length = n → k (.tup [.row 0 0 0 n, .nilsl, .int .i64 0]) [] [.row 0 ys])
  | _ => False }
def rnextLoops (held ins : List UInt8) (what p : Int) : List Nat → Nat → Option LoopAnn := fun _ r => match r with
  | 13 => some { V := Int × Nat × List UInt8, st := fun v => ⟨mk 78 [(1, .sl 0 ins), (2, .int .u8 what), (3, .int .i64 p), (11, .row 0 7002 0 v.2.1), (13, .int .i64 v.1)], [], [(7002, .row 0 v.2.2)]⟩, I := fun v => (0 ≤ v.1 ∧ v.1 ≤ ins.length) ∧ v.2.2 = held ++ rOut ins what p v.1.toNat ∧ v.2.2.length = v.2.1 ∧ (v.2.1 : Int) = held.length + v.1, μ := fun v => (ins.length - v.1).toNat }
  | _ => none
end Go.Proofs.Ytkcnpemaocdnkaa

