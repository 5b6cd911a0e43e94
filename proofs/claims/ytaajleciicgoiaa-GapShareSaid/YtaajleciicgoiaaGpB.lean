import Derived.Test.YtaajleciicgoiaaEngW
import Derived.Test.YtaajleciicgoiaaGpA
import Derived.Test.YtaajleciicgoiaaLit
namespace Go.Proofs.Ytaajleciicgoiaa
open Go Go.Eng Go.Fx Go.Proofs
noncomputable def mkEnv (T : Tab) : Env := mkE Try.prog tyC T
abbrev BD (r : Int) : Prop := -70368744177664 ≤ r ∧ r ≤ 70368744177664
def T0 : Tab := []
theorem T0_ok : TabOk Try.prog T0 := trivial
def downS : Eng.Spec := { ro := true, own := [], run := fun args _ k => match args with
  | [.int .i64 a, .int .i64 b] => inK .i64 a ∧ inK .i64 b ∧ 0 < b ∧ ∀ r : Int, r = a / b → True → k (.int .i64 r) [] []
  | _ => False }
def divS : Eng.Spec := { ro := true, own := [], run := fun args _ k => match args with
  | [.int .i64 a, .int .i64 b] => inK .i64 a ∧ inK .i64 b ∧ ∀ q e : Int, q = divQ a b → e = divE b → (-70368744177664 ≤ q ∧ q ≤ 70368744177664) → (e = 0 ∨ e = 10) → k (.tup [.int .i64 q, .int .i64 e]) [] []
  | _ => False }
def checkS : Eng.Spec := { ro := true, own := [], run := fun args _ k => match args with
  | [.agg [.bool gu, .int .i64 gh, .int .i64 gp, .int .i64 gc, .int .u64 gl]] => inK .i64 gh ∧ inK .i64 gp ∧ inK .i64 gc ∧ inK .u64 gl ∧ ∀ e : Int, e = gE gu gh gp gc gl → (e = 0 ∨ e = 8) → k (.int .i64 e) [] []
  | _ => False }
def mayS : Eng.Spec := { ro := true, own := [], run := fun args _ k => match args with
  | [.agg [.bool gu, .int .i64 gh, .int .i64 gp, .int .i64 gc, .int .u64 gl]] => inK .i64 gh ∧ inK .i64 gp ∧ inK .i64 gc ∧ inK .u64 gl ∧ ∀ b : Bool, (b = true ↔ gE gu gh gp gc gl = 0) → k (.bool b) [] []
  | _ => False }
def onesS : Eng.Spec := { ro := true, own := [], run := fun args _ k => match args with
  | [.int .u64 x] => inK .u64 x ∧ ∀ r : Int, r = cnt 64 x → (0 ≤ r ∧ r ≤ 64) → k (.int .i64 r) [] []
  | _ => False }
def T1 : Tab := [(24, s1 stopI BD), (25, s1 stopI BD), (26, downS)]
def T3 : Tab := (17, checkS) :: (21, mayS) :: (20, onesS) :: (19, s1 ofI BD) :: (23, s1 ofI BD) :: (18, divS) :: (22, divS) :: T1
def nextS : Eng.Spec := { ro := true, own := [], run := fun args _ k => match args with
  | [.agg [.bool gu, .int .i64 gh, .int .i64 gp, .int .i64 gc, .int .u64 gl], .bool up] => inK .i64 gh ∧ inK .i64 gp ∧ inK .i64 gc ∧ inK .u64 gl ∧ ∀ (u : Bool) (h p c l e : Int), u = nU gu gh gp gc gl up → h = nH gu gh gp gc gl up → p = nP gu gh gp gc gl up → c = nC gu gh gp gc gl up → l = nL gu gh gp gc gl up → e = gE gu gh gp gc gl → (0 ≤ h ∧ h ≤ 1048576) → (0 ≤ p ∧ p ≤ 1048576) → (0 ≤ c ∧ c ≤ 1073741824) → (0 ≤ l ∧ l ≤ 18446744073709551615) → (e = 0 ∨ e = 8) → k (.tup [.agg [.bool u, .int .i64 h, .int .i64 p, .int .i64 c, .int .u64 l], .int .i64 e]) [] []
  | _ => False }
def pastS : Eng.Spec := { ro := true, own := [], run := fun args _ k => match args with
  | [.agg [.bool gu, .int .i64 gh, .int .i64 gp, .int .i64 gc, .int .u64 gl], .int .i64 w] => inK .i64 gh ∧ inK .i64 gp ∧ inK .i64 gc ∧ inK .u64 gl ∧ inK .i64 w ∧ ∀ (b : Bool) (e : Int), b = paV gu gh gp gc gl w → e = paE gu gh gp gc gl w → (e = 0 ∨ e = 2 ∨ e = 8) → k (.tup [.bool b, .int .i64 e]) [] []
  | _ => False }
def shareS : Eng.Spec := { ro := true, own := [], run := fun args _ k => match args with
  | [.agg [.bool gu, .int .i64 gh, .int .i64 gp, .int .i64 gc, .int .u64 gl], .int .i64 w] => inK .i64 gh ∧ inK .i64 gp ∧ inK .i64 gc ∧ inK .u64 gl ∧ inK .i64 w ∧ ∀ v e : Int, v = shV gu gh gp gc gl w → e = shE gu gh gp gc gl w → (0 ≤ v ∧ v ≤ 65536) → (e = 0 ∨ e = 2 ∨ e = 8) → k (.tup [.int .i64 v, .int .i64 e]) [] []
  | _ => False }
def rshareLoops (w gl : Int) : List Nat → Nat → Option LoopAnn := fun _ r => match r with
  | 8 => some { V := Int × Int × Int, st := fun v => ⟨mk 43 [(1, .int .i64 w), (6, .int .i64 v.1), (7, .int .u64 v.2.1), (8, .int .i64 v.2.2)], [], []⟩, I := fun v => (0 ≤ v.2.2 ∧ v.2.2 ≤ w) ∧ (0 ≤ v.2.1 ∧ v.2.1 ≤ 18446744073709551615) ∧ (0 ≤ v.1 ∧ v.1 ≤ v.2.2) ∧ v.1 + cnt (w - v.2.2).toNat v.2.1 = cnt w.toNat gl, μ := fun v => (w - v.2.2).toNat }
  | _ => none
def T4 : Tab := (11, nextS) :: (14, nextS) :: (12, pastS) :: (16, pastS) :: (13, shareS) :: (15, shareS) :: []
def T5 : Tab := (9, trueS) :: T4
def behindS : Eng.Spec := { ro := true, own := [], run := fun args _ k => match args with
  | [.sl 4 xs] => ∀ (u : Bool) (h p c l : Int), (u, h, p, c, l) = gS xs → (0 ≤ h ∧ h ≤ 1048576) → (0 ≤ p ∧ p ≤ 1048576) → (0 ≤ c ∧ c ≤ 1073741824) → (0 ≤ l ∧ l ≤ 18446744073709551615) → k (.tup [.agg [.bool u, .int .i64 h, .int .i64 p, .int .i64 c, .int .u64 l], .bool true]) [] []
  | _ => False }
def zeroG : List AV := [.bool false, .int .i64 0, .int .i64 0, .int .i64 0, .int .u64 0]
def behindLoops (xs : List Bool) : List Nat → Nat → Option LoopAnn := fun _ r => match r with
  | 3 => some { V := Int × GS, st := fun v => ⟨mk 29 [(0, .sl 4 xs), (2, .ptr 1000 0), (4, .ptr 2001 0), (5, .int .i64 v.1)], [], [(1000, .cells [.bool false, .int .i64 0, .int .i64 0, .int .i64 0, .int .u64 0]), (2001, .cells [.bool v.2.1, .int .i64 v.2.2.1, .int .i64 v.2.2.2.1, .int .i64 v.2.2.2.2.1, .int .u64 v.2.2.2.2.2])]⟩, I := fun v => (0 ≤ v.1 ∧ v.1 ≤ xs.length) ∧ v.2 = gS (xs.take v.1.toNat), μ := fun v => (xs.length - v.1).toNat }
  | _ => none
def T6 : Tab := (10, behindS) :: T5
end Go.Proofs.Ytaajleciicgoiaa

