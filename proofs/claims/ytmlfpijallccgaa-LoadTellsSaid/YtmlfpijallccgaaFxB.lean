import Derived.Test.YtmlfpijallccgaaEngW
import Derived.Test.YtmlfpijallccgaaFxA
import Derived.Test.YtmlfpijallccgaaLit
namespace Go.Proofs.Ytmlfpijallccgaa
open Go Go.Eng Go.Fx Go.Proofs
noncomputable def mkEnv (T : Tab) : Env := mkE Try.prog tyC T
abbrev BD (r : Int) : Prop := -70368744177664 ≤ r ∧ r ≤ 70368744177664
def T0 : Tab := []
theorem T0_ok : TabOk Try.prog T0 := trivial
def sizeS : Eng.Spec := { ro := true, own := [], run := fun args _ k => match args with
  | [.int .i64 a] => inK .i64 a ∧ ∀ u : Int, u = (if a < 0 then -a else a) → (0 ≤ u ∧ u ≤ 9223372036854775808) → k (.tup [.int .u64 u, .bool (decide (a < 0))]) [] []
  | _ => False }
def absS : Eng.Spec := { ro := true, own := [], run := fun args _ k => match args with
  | [.int .i64 a] => inK .i64 a ∧ -9223372036854775808 < a ∧ ∀ r : Int, r = (if a < 0 then -a else a) → (0 ≤ r) → k (.int .i64 r) [] []
  | _ => False }
def mul64S : Eng.Spec := { ro := true, own := [], run := fun args _ k => match args with
  | [.int .u64 x, .int .u64 y] => inK .u64 x ∧ inK .u64 y ∧ ∀ h l : Int, h = x * y / 18446744073709551616 → l = x * y % 18446744073709551616 → (0 ≤ h ∧ h ≤ 18446744073709551615) → (0 ≤ l ∧ l ≤ 18446744073709551615) → k (.tup [.int .u64 h, .int .u64 l]) [] []
  | _ => False }
def downS : Eng.Spec := { ro := true, own := [], run := fun args _ k => match args with
  | [.int .i64 a, .int .i64 b] => inK .i64 a ∧ inK .i64 b ∧ 0 < b ∧ ∀ r : Int, r = a / b → True → k (.int .i64 r) [] []
  | _ => False }
def divS : Eng.Spec := { ro := true, own := [], run := fun args _ k => match args with
  | [.int .i64 a, .int .i64 b] => inK .i64 a ∧ inK .i64 b ∧ ∀ q e : Int, q = divQ a b → e = divE b → (-70368744177664 ≤ q ∧ q ≤ 70368744177664) → (e = 0 ∨ e = 10) → k (.tup [.int .i64 q, .int .i64 e]) [] []
  | _ => False }
def T1 : Tab := [(25, s1 stopI BD), (27, sizeS), (26, s3 clampI fun _ => True), (28, mul64S), (29, add64S)]
end Go.Proofs.Ytmlfpijallccgaa

