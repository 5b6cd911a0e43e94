import Derived.Test.YtpkfadgennejnaaEngW
import Derived.Test.YtpkfadgennejnaaLkA
import Derived.Test.YtpkfadgennejnaaLit
namespace Go.Proofs.Ytpkfadgennejnaa
open Go Go.Eng Go.Lk Go.Proofs
set_option linter.unusedVariables false
noncomputable def mkEnv (T : Tab) : Env := mkE Try.prog tyC T
def T0 : Tab := []
theorem T0_ok : TabOk Try.prog T0 := trivial
def clone0S : Eng.Spec := { ro := true, own := [], run := fun args _ k => match args with
  | [.sl 0 xs] => xs.length ≤ 1000000 ∧ (xs = [] → k .nilsl [] []) ∧ k (.row 0 0 0 xs.length) [] [.row 0 xs]
  | _ => False }
def cloneS : Eng.Spec := { ro := true, own := [], run := fun args _ k => match args with
  | [.sl 0 xs] => xs.length ≤ 1000000 ∧ k (.row 0 0 0 xs.length) [] [.row 0 xs]
  | _ => False }
def checkS : Eng.Spec := { ro := true, own := [], run := fun args _ k => match args with
  | [.agg [.bool an, .int .u32 la, .int .i64 ag]] => inK .u32 la ∧ inK .i64 ag ∧ ∀ e : Int, e = (if lkBad an la ag then 8 else 0) → k (.int .i64 e) [] []
  | _ => False }
def T1 : Tab := [(32, cloneS), (31, checkS)]
def nextS : Eng.Spec := { ro := false, own := [], run := fun args _ k => match args with
  | [.agg [.bool an, .int .u32 la, .int .i64 ag], .sl 8 got] => inK .u32 la ∧ inK .i64 ag ∧ (∀ e : Int, e = lE an la ag got → e ≠ 0 → k (.tup [.agg [.bool false, .int .u32 0, .int .i64 0], .nilsl, .int .i64 e]) [] []) ∧ (lE an la ag got = 0 → ∀ (b : Bool) (l a : Int) (ys : List Msg) (n : Nat), (b, l) = stk (an, la) got → inK .u32 l → ys = tk (an, la) got → ys.length = n → a = ageN ag n → k (.tup [.agg [.bool b, .int .u32 l, .int .i64 a], .row 8 0 0 n, .int .i64 0]) [] [.row 8 ys])
  | _ => False }
def nextLoops (an : Bool) (la ag : Int) (got : List Msg) : List Nat → Nat → Option LoopAnn := fun _ r => match r with
  | 7 => some { V := Int, st := fun v => ⟨mk 74 [(1, .sl 8 got), (2, .ptr 1000 0), (4, .ptr 1001 0), (23, .sl 8 got), (24, .int .i64 got.length), (25, .int .i64 v)], [], [(1000, .cells [.bool an, .int .u32 la, .int .i64 ag]), (1001, .cells [.bool false, .int .u32 0, .int .i64 0])]⟩, I := fun v => (0 ≤ v ∧ v ≤ got.length) ∧ ∀ j, j < v.toNat → (got.getD j (dflt 8)).body.length ≤ 512, μ := fun v => (got.length - v).toNat }
  | 14 => some { V := Int × Bool × Int × Nat × List Msg, st := fun v => ⟨mk 74 [(2, .ptr 1000 0), (4, .ptr 1001 0), (10, .row 8 7777 0 v.2.2.2.1), (35, .sl 8 got), (36, .int .i64 got.length), (37, .int .i64 v.1)], [], [(1000, .cells [.bool v.2.1, .int .u32 v.2.2.1, .int .i64 ag]), (1001, .cells [.bool false, .int .u32 0, .int .i64 0]), (7777, .row 8 v.2.2.2.2)]⟩, I := fun v => (0 ≤ v.1 ∧ v.1 ≤ got.length) ∧ (0 ≤ v.2.2.1 ∧ v.2.2.1 ≤ 4294967295) ∧ (v.2.1, v.2.2.1) = stk (an, la) (got.take v.1.toNat) ∧ v.2.2.2.2 = tk (an, la) (got.take v.1.toNat) ∧ v.2.2.2.2.length = v.2.2.2.1 ∧ (v.2.2.2.1 : Int) ≤ v.1 ∧ got.length ≤ 1024 ∧ bigB got = false, μ := fun v => (got.length - v.1).toNat, boxes := [(10, 7777, 8)] }
  | _ => none
end Go.Proofs.Ytpkfadgennejnaa

