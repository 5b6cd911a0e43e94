import Derived.Test.YtpkfadgennejnaaLkY
import Derived.Test.YtpkfadgennejnaaLkK
namespace Go.Proofs.Ytpkfadgennejnaa
open Go Go.Eng Go.Lk Go.Proofs
set_option linter.unusedVariables false
def mayS : Eng.Spec := { ro := true, own := [], run := fun args _ k => match args with
  | [.agg [.bool an, .int .u32 la, .int .i64 ag]] => inK .u32 la ∧ inK .i64 ag ∧ (lkBad an la ag → k (.bool false) [] []) ∧ (¬ lkBad an la ag → k (.bool true) [] [])
  | _ => False }
def sendS : Eng.Spec := { ro := true, own := [], run := fun args _ k => match args with
  | [.int .u32 la] => inK .u32 la ∧ ∀ n e : Int, (n, e) = (if la = 4294967295 then (0, 2) else (la + 1, 0)) → k (.tup [.int .u32 n, .int .i64 e]) [] []
  | _ => False }
def U1 : Tab := [(33, mayS)]
structure small (l : List Msg) : Prop where
  c1 : l.length ≤ 1048576
  c2 : ∀ j : Nat, (l.getD j (dflt 8)).body.length ≤ 1048576
theorem sum_at : ∀ (l : List Msg) (j : Nat), (l.getD j (dflt 8)).body.length ≤ (l.map fun m => m.body.length).sum
  | [], j => by show 0 ≤ _; omega
  | m :: r, 0 => by simp only [List.map_cons, List.sum_cons]; show m.body.length ≤ _; omega
  | m :: r, j + 1 => by
    have := sum_at r j
    simp only [List.map_cons, List.sum_cons]
    show (r.getD j (dflt 8)).body.length ≤ _
    omega
theorem small_sum {l : List Msg} (h1 : l.length ≤ 1048576) (h : (l.map fun m => m.body.length).sum ≤ 1048576) : small l :=
  ⟨h1, fun j => Nat.le_trans (sum_at l j) h⟩
theorem may_k {k : AV → List (Option Blk) → List Blk → Prop} {an : Bool} {la ag n1 n4 n6 : Int} (e1 : n1 = ag) (e4 : n4 = ag) (e6 : n6 = la) (h1 : lkBad an la ag → k (.bool false) [] []) (h2 : ¬ lkBad an la ag → k (.bool true) [] []) :
    k (.bool (bif bif decide (n1 ≥ (0 : Int)) then decide (n4 ≤ (1048576 : Int)) else false then bif an then true else n6 == (0 : Int) else false)) [] [] := by
  subst e1; subst e4; subst e6
  by_cases b : lkBad an n6 n4
  · have e : (bif bif decide (n4 ≥ (0 : Int)) then decide (n4 ≤ (1048576 : Int)) else false then bif an then true else n6 == (0 : Int) else false) = false := by
      unfold lkBad at b
      cases an <;> simp at b ⊢ <;> omega
    rw [e]; exact h1 b
  · have e : (bif bif decide (n4 ≥ (0 : Int)) then decide (n4 ≤ (1048576 : Int)) else false then bif an then true else n6 == (0 : Int) else false) = true := by
      unfold lkBad at b
      cases an <;> simp at b ⊢ <;> omega
    rw [e]; exact h2 b
def twinS : Eng.Spec := { ro := false, own := [], run := fun args _ k => match args with
  | [.sl 8 l] => small l ∧ ∀ (n : Nat) (ys : List Msg), ys = l → n = l.length → k (.row 8 0 0 n) [] [.row 8 ys]
  | _ => False }
def twinLoops (l : List Msg) : List Nat → Nat → Option LoopAnn := fun _ r => match r with
  | 3 => some { V := Int × Nat × List Msg, st := fun v => ⟨mk 32 [(0, .sl 8 l), (3, .row 8 7777 0 v.2.1), (4, .int .i64 v.1)], [], [(7777, .row 8 v.2.2)]⟩, I := fun v => (0 ≤ v.1 ∧ v.1 ≤ l.length) ∧ v.2.2 = l.take v.1.toNat ∧ (v.2.1 : Int) = v.1 ∧ small l, μ := fun v => (l.length - v.1).toNat, boxes := [(3, 7777, 8)] }
  | _ => none
structure eqMs (xs ys : List Msg) : Prop where
  e : xs = ys
def sameMS : Eng.Spec := { ro := true, own := [], run := fun args _ k => match args with
  | [.sl 8 xs, .sl 8 ys] => eqMs xs ys ∧ xs.length ≤ 1048576 ∧ k (.bool true) [] []
  | _ => False }
def sameLoops (xs : List Msg) : List Nat → Nat → Option LoopAnn := fun _ r => match r with
  | 4 => some { V := Int, st := fun v => ⟨mk 56 [(0, .sl 8 xs), (1, .sl 8 xs), (5, .int .i64 v)], [], []⟩, I := fun v => (0 ≤ v ∧ v ≤ xs.length) ∧ xs.length ≤ 1048576, μ := fun v => (xs.length - v).toNat }
  | _ => none
def rnextS : Eng.Spec := { ro := false, own := [], run := fun args _ k => match args with
  | [.agg [.bool an, .int .u32 la, .int .i64 ag], .sl 8 got] => inK .u32 la ∧ inK .i64 ag ∧ small got ∧ (∀ e : Int, e = lE an la ag got → e ≠ 0 → k (.tup [.agg [.bool false, .int .u32 0, .int .i64 0], .nilsl, .int .i64 e]) [] []) ∧ (lE an la ag got = 0 → ∀ (b : Bool) (l a : Int) (ys : List Msg) (n : Nat), (b, l) = stk (an, la) got → inK .u32 l → ys = tk (an, la) got → ys.length = n → a = ageN ag n → k (.tup [.agg [.bool b, .int .u32 l, .int .i64 a], .row 8 0 0 n, .int .i64 0]) [] [.row 8 ys])
  | _ => False }
def rnextLoops (an : Bool) (la ag : Int) (got : List Msg) : List Nat → Nat → Option LoopAnn := fun _ r => match r with
  | 6 => some { V := Int, st := fun v => ⟨mk 78 [(1, .sl 8 got), (2, .ptr 1000 0), (4, .ptr 1001 0), (7, .int .i64 v)], [], [(1000, .cells [.bool an, .int .u32 la, .int .i64 ag]), (1001, .cells [.bool false, .int .u32 0, .int .i64 0])]⟩, I := fun v => (0 ≤ v ∧ v ≤ got.length) ∧ ∀ j, j < v.toNat → (got.getD j (dflt 8)).body.length ≤ 512, μ := fun v => (got.length - v).toNat }
  | 12 => some { V := Int × Bool × Int × Nat × List Msg, st := fun v => ⟨mk 78 [(1, .sl 8 got), (2, .ptr 1000 0), (4, .ptr 1001 0), (8, .row 8 7777 0 v.2.2.2.1), (9, .int .i64 v.1)], [], [(1000, .cells [.bool v.2.1, .int .u32 v.2.2.1, .int .i64 ag]), (1001, .cells [.bool false, .int .u32 0, .int .i64 0]), (7777, .row 8 v.2.2.2.2)]⟩, I := fun v => (0 ≤ v.1 ∧ v.1 ≤ got.length) ∧ (0 ≤ v.2.2.1 ∧ v.2.2.1 ≤ 4294967295) ∧ (v.2.1, v.2.2.1) = stk (an, la) (got.take v.1.toNat) ∧ v.2.2.2.2 = tk (an, la) (got.take v.1.toNat) ∧ v.2.2.2.2.length = v.2.2.2.1 ∧ (v.2.2.2.1 : Int) ≤ v.1 ∧ got.length ≤ 1024 ∧ bigB got = false, μ := fun v => (got.length - v.1).toNat, boxes := [(8, 7777, 8)] }
  | _ => none
end Go.Proofs.Ytpkfadgennejnaa

