import Derived.Test.YtcnnbofjgmohaaaEngW
import Derived.Test.YtcnnbofjgmohaaaRgA
import Derived.Test.YtcnnbofjgmohaaaLit
namespace Go.Proofs.Ytcnnbofjgmohaaa
open Go Go.Eng Go.Rg Go.Proofs
set_option linter.unusedVariables false
noncomputable def mkEnv (T : Tab) : Env := mkE Try.prog tyC T
def T0 : Tab := []
theorem T0_ok : TabOk Try.prog T0 := trivial
def rOk (n : Nat) (a m : Int) (xs : List Int) : Prop := (1 ≤ n ∧ n ≤ 1024) ∧ xs.length = n ∧ (0 ≤ a ∧ a < n) ∧ (0 ≤ m ∧ m ≤ n)
def noneS : Eng.Spec := { ro := false, own := [false, false], run := fun args B k => match args, B with
  | [.ptr 0 0], [.cells [.row 1 1 0 n, .int .i64 a, .int .i64 m], .row 1 xs] => rOk n a m xs ∧ k (.bool false) [some (.cells [.row 1 1 0 n, .int .i64 a, .int .i64 m]), some (.row 1 xs)] []
  | _, _ => False }
def pushS : Eng.Spec := { ro := false, own := [false, false], run := fun args B k => match args, B with
  | [.ptr 0 0, .int .i64 x], [.cells [.row 1 1 0 n, .int .i64 a, .int .i64 m], .row 1 xs] => rOk n a m xs ∧ inK .i64 x ∧ ∀ (a1 m1 : Int) (ys : List Int), a1 = (a + 1) % n → m1 = min (m + 1) n → ys = xs.set a.toNat x → rOk n a1 m1 ys → k (.int .i64 0) [some (.cells [.row 1 1 0 n, .int .i64 a1, .int .i64 m1]), some (.row 1 ys)] []
  | _, _ => False }
def atS : Eng.Spec := { ro := false, own := [false, false], run := fun args B k => match args, B with
  | [.ptr 0 0, .int .i64 i], [.cells [.row 1 1 0 n, .int .i64 a, .int .i64 m], .row 1 xs] => rOk n a m xs ∧ inK .i64 i ∧ ∀ (v e : Int), v = atV n a m xs i → e = atE m i → inK .i64 v → (e = 0 ∨ e = 2) → k (.tup [.int .i64 v, .int .i64 e]) [some (.cells [.row 1 1 0 n, .int .i64 a, .int .i64 m]), some (.row 1 xs)] []
  | _, _ => False }
def fullS : Eng.Spec := { ro := false, own := [false, false], run := fun args B k => match args, B with
  | [.ptr 0 0], [.cells [.row 1 1 0 n, .int .i64 a, .int .i64 m], .row 1 xs] => rOk n a m xs ∧ k (.bool (m == (n : Int))) [some (.cells [.row 1 1 0 n, .int .i64 a, .int .i64 m]), some (.row 1 xs)] []
  | _, _ => False }
def allS : Eng.Spec := { ro := false, own := [false, false], run := fun args B k => match args, B with
  | [.ptr 0 0], [.cells [.row 1 1 0 n, .int .i64 a, .int .i64 m], .row 1 xs] => rOk n a m xs ∧ ∀ (ys : List Int) (q : Nat), ys = allR n a m xs q → (q : Int) = m → k (.tup [.row 1 2 0 q, .int .i64 0]) [some (.cells [.row 1 1 0 n, .int .i64 a, .int .i64 m]), some (.row 1 xs)] [.row 1 ys]
  | _, _ => False }
def sumS : Eng.Spec := { ro := false, own := [false, false], run := fun args B k => match args, B with
  | [.ptr 0 0], [.cells [.row 1 1 0 n, .int .i64 a, .int .i64 m], .row 1 xs] => rOk n a m xs ∧ ∀ (s : Int), s = clampS (sumR n a xs m.toNat) → (-4611686018427387904 ≤ s ∧ s ≤ 4611686018427387904) → k (.tup [.int .i64 s, .int .i64 0]) [some (.cells [.row 1 1 0 n, .int .i64 a, .int .i64 m]), some (.row 1 xs)] []
  | _, _ => False }
def newS : Eng.Spec := { ro := true, own := [], run := fun args _ k => match args with
  | [.int .i64 n] => inK .i64 n ∧ (1 ≤ n → n ≤ 1024 → ∀ (q : Nat) (xs : List Int), (q : Int) = n → xs = List.replicate q 0 → k (.tup [.ptr 0 0, .int .i64 0]) [] [.cells [.row 1 1 0 q, .int .i64 0, .int .i64 0], .row 1 xs]) ∧ ((n < 1 ∨ 1024 < n) → k (.tup [.nilptr, .int .i64 2]) [] [])
  | _ => False }
def T1 : Tab := [(20, noneS)]
def T2 : Tab := (11, atS) :: T1
def T3 : Tab := (21, add64S) :: T2
theorem add64_ok2 : Holds Try.prog 21 add64S := add64_ok
def allLoops (n : Nat) (a m : Int) (xs : List Int) : List Nat → Nat → Option LoopAnn := fun _ r => match r with
  | 5 => some { V := Int × Nat × List Int, st := fun v => ⟨mk 35 [(0, .ptr 0 0), (4, .row 1 4004 0 v.2.1), (5, .int .i64 v.1)], [], [(0, .cells [.row 1 1 0 n, .int .i64 a, .int .i64 m]), (1, .row 1 xs), (4004, .row 1 v.2.2)]⟩, I := fun v => (-1 ≤ v.1 ∧ v.1 ≤ m - 1) ∧ (v.2.1 : Int) = m - 1 - v.1 ∧ v.2.2 = allR n a m xs v.2.1 ∧ v.2.2.length = v.2.1, μ := fun v => (v.1 + 1).toNat }
  | _ => none
def sumLoops (n : Nat) (a m : Int) (xs : List Int) : List Nat → Nat → Option LoopAnn := fun _ r => match r with
  | 6 => some { V := Int × Int × Int, st := fun v => ⟨mk 68 [(0, .ptr 0 0), (4, .int .i64 v.1), (5, .int .u64 v.2.1), (16, .int .i64 m), (17, .int .i64 v.2.2)], [], [(0, .cells [.row 1 1 0 n, .int .i64 a, .int .i64 m]), (1, .row 1 xs)]⟩, I := fun v => (0 ≤ v.2.2 ∧ v.2.2 ≤ m) ∧ (0 ≤ v.2.1 ∧ v.2.1 ≤ 18446744073709551615) ∧ v.1 * 18446744073709551616 + v.2.1 = sumR n a xs v.2.2.toNat ∧ (-9223372036854775808 * v.2.2 ≤ v.1 * 18446744073709551616 + v.2.1 ∧ v.1 * 18446744073709551616 + v.2.1 ≤ 9223372036854775808 * v.2.2), μ := fun v => (m - v.2.2).toNat }
  | _ => none
end Go.Proofs.Ytcnnbofjgmohaaa

