import Derived.Test.YtpkfadgennejnaaLkC
namespace Go.Proofs.Ytpkfadgennejnaa
open Go Go.Eng Go.Lk Go.Proofs
set_option linter.unusedVariables false
def ofS : Eng.Spec := { ro := false, own := [], run := fun args _ k => match args with
  | [.sl 2 xs] => xs.length ≤ 1000000 ∧ ∀ (ys : List Msg) (n : Nat), ys = xs.map msg → ys.length = n → k (.row 8 0 0 n) [] [.row 8 ys]
  | _ => False }
def ofLoops (xs : List UInt32) : List Nat → Nat → Option LoopAnn := fun _ r => match r with
  | 3 => some { V := Int × List Msg, st := fun v => ⟨mk 20 [(0, .sl 2 xs), (3, .row 8 7777 0 v.2.length), (4, .int .i64 v.1)], [], [(7777, .row 8 v.2)]⟩, I := fun v => (0 ≤ v.1 ∧ v.1 ≤ xs.length) ∧ v.2 = (xs.take v.1.toNat).map msg ∧ (v.2.length : Int) = v.1, μ := fun v => (xs.length - v.1).toNat, boxes := [(3, 7777, 8)] }
  | _ => none
def freshS : Eng.Spec := { ro := true, own := [], run := fun args _ k => match args with
  | [.agg [.bool an, .int .u32 la, .int .i64 ag], .int .i64 w] => inK .u32 la ∧ inK .i64 ag ∧ inK .i64 w ∧ (∀ e : Int, e = fE an la ag w → e ≠ 0 → k (.tup [.bool false, .int .i64 e]) [] []) ∧ (fE an la ag w = 0 → ∀ b : Bool, b = (an && decide (ag < w)) → k (.tup [.bool b, .int .i64 0]) [] [])
  | _ => False }
end Go.Proofs.Ytpkfadgennejnaa

