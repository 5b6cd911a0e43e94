import Derived.Test.YtiekaipompepdaaEngZ
import Derived.Test.YtiekaipompepdaaEngT
import Derived.Test.YtiekaipompepdaaBkA
import Derived.Test.YtiekaipompepdaaLit
namespace Go.Proofs.Ytiekaipompepdaa
open Go Go.Eng Go.Bk Go.Proofs
set_option linter.unusedVariables false
noncomputable def mkEnv (T : Tab) : Env := mkE Try.prog tyC T
def T0 : Tab := []
theorem T0_ok : TabOk Try.prog T0 := trivial
def clone0S : Eng.Spec := { ro := true, own := [], run := fun args _ k => match args with
  | [.sl 0 xs] => xs.length ≤ 1000000 ∧ (xs = [] → k .nilsl [] []) ∧ k (.row 0 0 0 xs.length) [] [.row 0 xs]
  | _ => False }
def cloneS : Eng.Spec := { ro := true, own := [], run := fun args _ k => match args with
  | [.sl 0 xs] => xs.length ≤ 1000000 ∧ k (.row 0 0 0 xs.length) [] [.row 0 xs]
  | _ => False }
def equalS : Eng.Spec := { ro := true, own := [], run := fun args _ k => match args with
  | [.sl 0 a, .sl 0 b] => ∀ r : Bool, (r = true ↔ a = b) → k (.bool r) [] []
  | _ => False }
def sameS : Eng.Spec := { ro := true, own := [], run := fun args _ k => match args with
  | [.agg [.sl 0 a], .agg [.sl 0 b]] => ∀ r : Bool, (r = true ↔ a = b) → k (.bool r) [] []
  | _ => False }
def checkS : Eng.Spec := { ro := true, own := [], run := fun args _ k => match args with
  | [.agg [.sl 0 d]] => ∀ e : Int, e = chkE d → k (.int .i64 e) [] []
  | _ => False }
def manyS : Eng.Spec := { ro := true, own := [], run := fun args _ k => match args with
  | [.agg [.sl 0 d]] => ∀ e m : Int, e = chkE d → m = (if dOk d.length then ((d.length / 64 : Nat) : Int) else 0) → k (.tup [.int .i64 m, .int .i64 e]) [] []
  | _ => False }
def rmanyS : Eng.Spec := { ro := true, own := [], run := fun args _ k => match args with
  | [.agg [.sl 0 d]] => ∀ m : Int, m = ((d.length / 64 : Nat) : Int) → k (.int .i64 m) [] []
  | _ => False }
def askedS : Eng.Spec := { ro := true, own := [], run := fun args _ k => match args with
  | [.agg [.sl 0 d], .int .i64 n] => ∀ e : Int, e = askE d n → k (.int .i64 e) [] []
  | _ => False }
/-- A block, as it stands: in what is but read; in a row of one's own. -/
def atS : Eng.Spec := { ro := false, own := [], run := fun args _ k => match args with
  | [.agg [.sl 0 d], .int .i64 n] => (0 ≤ n ∧ 64 * n + 64 ≤ d.length ∧ d.length ≤ 1000000) ∧ k (.sl 0 (blk d n)) [] []
  | _ => False }
def atB : Eng.Spec := { ro := true, own := [false], run := fun args B k => match args, B with
  | [.agg [.row 0 0 0 q], .int .i64 n], [.row 0 xs] => (q = xs.length ∧ 0 ≤ n ∧ 64 * n + 64 ≤ xs.length ∧ xs.length ≤ 1000000) ∧ ∀ o : Nat, o = 64 * n.toNat → k (.row 0 0 o 64) [some (.row 0 xs)] []
  | _, _ => False }
def twinS : Eng.Spec := { ro := true, own := [], run := fun args _ k => match args with
  | [.agg [.sl 0 d]] => d.length ≤ 1000000 ∧ ∀ (ys : List UInt8) (n : Nat), ys = d → ys.length = n → k (.agg [.row 0 0 0 n]) [] [.row 0 ys]
  | _ => False }
def newE (n : Int) : Int := if 1 ≤ n ∧ n ≤ 64 then 0 else 180
def newO (n : Int) : List UInt8 := if 1 ≤ n ∧ n ≤ 64 then List.replicate (64 * n.toNat) 0 else []
def newS : Eng.Spec := { ro := true, own := [], run := fun args _ k => match args with
  | [.int .i64 n] => (newE n ≠ 0 → k (.tup [.agg [.nilsl], .int .i64 180]) [] []) ∧ (newE n = 0 → ∀ (ys : List UInt8) (q : Nat), ys = newO n → ys.length = q → k (.tup [.agg [.row 0 0 0 q], .int .i64 0]) [] [.row 0 ys])
  | _ => False }
def blockS : Eng.Spec := { ro := true, own := [], run := fun args _ k => match args with
  | [.agg [.sl 0 d], .int .i64 n] => (0 ≤ n ∧ 64 * n + 64 ≤ d.length ∧ d.length ≤ 1000000) ∧ ∀ (ys : List UInt8) (q : Nat), ys = blk d n → ys.length = q → k (.row 0 0 0 q) [] [.row 0 ys]
  | _ => False }
def raskE (m : Nat) (n : Int) (b : List UInt8) : Int := if 0 ≤ n ∧ n < (m / 64 : Nat) then (if b.length = 64 then 0 else 8) else 2
def raskedS : Eng.Spec := { ro := true, own := [], run := fun args _ k => match args with
  | [.agg [.sl 0 d], .int .i64 n, .sl 0 b] => ∀ e : Int, e = raskE d.length n b → k (.int .i64 e) [] []
  | _ => False }
def onesS : Eng.Spec := { ro := true, own := [], run := fun args _ k => match args with
  | [.int .u8 x] => (0 ≤ x ∧ x ≤ 255) ∧ ∀ (ys : List UInt8) (q : Nat), ys = List.replicate 64 (UInt8.ofNat x.toNat) → ys.length = q → k (.row 0 0 0 q) [] [.row 0 ys]
  | _ => False }
def onesLoops (x : Int) : List Nat → Nat → Option LoopAnn := fun _ r => match r with
  | 3 => some { V := Nat × List UInt8, st := fun v => ⟨mk 15 [(0, .int .u8 x), (3, .row 0 2000 0 64), (4, .int .i64 v.1)], [], [(2000, .row 0 v.2)]⟩, I := fun v => v.1 ≤ 64 ∧ v.2 = List.replicate v.1 (UInt8.ofNat x.toNat) ++ List.replicate (64 - v.1) (0 : UInt8) ∧ v.2.length = 64, μ := fun v => 64 - v.1 }
  | _ => none
end Go.Proofs.Ytiekaipompepdaa

