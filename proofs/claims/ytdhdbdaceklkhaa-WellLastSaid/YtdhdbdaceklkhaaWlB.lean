import Derived.Test.YtdhdbdaceklkhaaEngW
import Derived.Test.YtdhdbdaceklkhaaWlA
import Derived.Test.YtdhdbdaceklkhaaLit
namespace Go.Proofs.Ytdhdbdaceklkhaa
open Go Go.Eng Go.Fx Go.Proofs
set_option linter.unusedVariables false
noncomputable def mkEnv (T : Tab) : Env := mkE Try.prog tyC T
abbrev BD (r : Int) : Prop := -70368744177664 ≤ r ∧ r ≤ 70368744177664
def T0 : Tab := []
theorem T0_ok : TabOk Try.prog T0 := trivial
def downS : Eng.Spec := { ro := true, own := [], run := fun args _ k => match args with
  | [.int .i64 a, .int .i64 b] => inK .i64 a ∧ inK .i64 b ∧ 0 < b ∧ ∀ r : Int, r = a / b → True → k (.int .i64 r) [] []
  | _ => False }
def divS : Eng.Spec := { ro := true, own := [], run := fun args _ k => match args with
  | [.int .i64 a, .int .i64 b] => inK .i64 a ∧ inK .i64 b ∧ ∀ q e : Int, q = divQ a b → e = divE b → (-70368744177664 ≤ q ∧ q ≤ 70368744177664) → (e = 0 ∨ e = 10) → k (.tup [.int .i64 q, .int .i64 e]) [] []
  | _ => False }
def T1 : Tab := [(19, s1 stopI BD), (20, s1 stopI BD), (21, downS)]
def nextS : Eng.Spec := { ro := true, own := [], run := fun args _ k => match args with
  | [.agg [.int .u64 b], .bool up] => inK .u64 b ∧ ∀ r : Int, r = wN b up → (0 ≤ r ∧ r ≤ 18446744073709551615) → k (.agg [.int .u64 r]) [] []
  | _ => False }
def shareS : Eng.Spec := { ro := true, own := [], run := fun args _ k => match args with
  | [.agg [.int .u64 b], .int .i64 w] => inK .u64 b ∧ inK .i64 w ∧ ∀ v e : Int, v = wS b w → e = wE w → (0 ≤ v ∧ v ≤ 65536) → (e = 0 ∨ e = 2) → k (.tup [.int .i64 v, .int .i64 e]) [] []
  | _ => False }
def poorS : Eng.Spec := { ro := true, own := [], run := fun args _ k => match args with
  | [.agg [.int .u64 b], .int .i64 w, .int .i64 z] => inK .u64 b ∧ inK .i64 w ∧ inK .i64 z ∧ ∀ (p : Bool) (e : Int), p = pV b w z → e = pE w z → (e = 0 ∨ e = 2) → k (.tup [.bool p, .int .i64 e]) [] []
  | _ => False }
def lawTicks : Eng.Spec := { ro := true, own := [], run := fun args _ k => match args with
  | [.agg [.int .u64 b], .bool up, .int .i64 w, .int .i64 z] => inK .u64 b ∧ inK .i64 w ∧ inK .i64 z ∧ k (.bool true) [] []
  | _ => False }
def lawMore : Eng.Spec := { ro := true, own := [], run := fun args _ k => match args with
  | [.agg [.int .u64 b], .int .i64 w, .int .i64 low, .int .i64 high] => inK .u64 b ∧ inK .i64 w ∧ inK .i64 low ∧ inK .i64 high ∧ k (.bool true) [] []
  | _ => False }
def shareLoops (b w : Int) : List Nat → Nat → Option LoopAnn := fun _ r => match r with
  | 5 => some { V := Int × Int, st := fun v => ⟨mk 34 [(1, .int .i64 w), (6, .int .i64 v.1), (7, .int .u64 v.2)], [], []⟩, I := fun v => (0 ≤ v.1 ∧ v.1 ≤ 64) ∧ (0 ≤ v.2 ∧ v.2 ≤ 18446744073709551615) ∧ v.1 + cnt 64 v.2 = cnt w.toNat b, μ := fun v => v.2.toNat }
  | _ => none
def rshareLoops (b w : Int) : List Nat → Nat → Option LoopAnn := fun _ r => match r with
  | 5 => some { V := Int × Int × Int, st := fun v => ⟨mk 40 [(1, .int .i64 w), (6, .int .i64 v.1), (7, .int .u64 v.2.1), (8, .int .i64 v.2.2)], [], []⟩, I := fun v => (0 ≤ v.2.2 ∧ v.2.2 ≤ w) ∧ (0 ≤ v.2.1 ∧ v.2.1 ≤ 18446744073709551615) ∧ (0 ≤ v.1 ∧ v.1 ≤ v.2.2) ∧ v.1 + cnt (w - v.2.2).toNat v.2.1 = cnt w.toNat b, μ := fun v => (w - v.2.2).toNat }
  | _ => none
def T3 : Tab := (16, s1 ofI BD) :: (18, s1 ofI BD) :: (15, divS) :: (17, divS) :: T1
def T4 : Tab := (9, shareS) :: (11, shareS) :: (13, nextS) :: (14, nextS) :: []
def T5 : Tab := (7, trueS) :: (10, poorS) :: (12, poorS) :: T4
end Go.Proofs.Ytdhdbdaceklkhaa

