import Derived.Test.YtcnnbofjgmohaaaRgF
namespace Go.Proofs.Ytcnnbofjgmohaaa
open Go Go.Eng Go.Rg Go.Proofs
set_option linter.unusedVariables false
def fnewS : Eng.Spec := { ro := true, own := [], run := fun args _ k => match args with
  | [.int .i64 n] => inK .i64 n ∧ (1 ≤ n → n ≤ 1024 → k (.tup [.agg [.int .i64 n, .nilsl], .int .i64 0]) [] []) ∧ ((n < 1 ∨ 1024 < n) → k (.tup [.agg [.int .i64 0, .nilsl], .int .i64 2]) [] [])
  | _ => False }
def flastS : Eng.Spec := { ro := false, own := [], run := fun args _ k => match args with
  | [.agg [.int .i64 n, .sl 1 L]] => (1 ≤ n ∧ n ≤ 1024) ∧ L.length ≤ 2000 ∧ ∀ ys : List Int, ys = lastL n.toNat L → ys.length ≤ 2000 → k (.sl 1 ys) [] []
  | _ => False }
def fatS : Eng.Spec := { ro := true, own := [], run := fun args _ k => match args with
  | [.agg [.int .i64 n, .sl 1 L], .int .i64 i] => (1 ≤ n ∧ n ≤ 1024) ∧ L.length ≤ 2000 ∧ inK .i64 i ∧ ∀ v e : Int, v = (if 0 ≤ i ∧ i < (lastL n.toNat L).length then (lastL n.toNat L).getD ((lastL n.toNat L).length - 1 - i.toNat) 0 else 0) → e = (if 0 ≤ i ∧ i < (lastL n.toNat L).length then 0 else 2) → inK .i64 v → (e = 0 ∨ e = 2) → k (.tup [.int .i64 v, .int .i64 e]) [] []
  | _ => False }
def fsumS : Eng.Spec := { ro := true, own := [], run := fun args _ k => match args with
  | [.agg [.int .i64 n, .sl 1 L]] => (1 ≤ n ∧ n ≤ 1024) ∧ L.length ≤ 2000 ∧ ∀ s : Int, s = clampS (sumL (lastL n.toNat L)) → (-4611686018427387904 ≤ s ∧ s ≤ 4611686018427387904) → k (.int .i64 s) [] []
  | _ => False }
def fsameS : Eng.Spec := { ro := true, own := [], run := fun args _ k => match args with
  | [.sl 1 a, .sl 1 b] => ∀ r : Bool, (r = true ↔ a = b) → k (.bool r) [] []
  | _ => False }
def fpush0S : Eng.Spec := { ro := false, own := [], run := fun args _ k => match args with
  | [.agg [.int .i64 n, .sl 1 L], .int .i64 x] => inK .i64 n ∧ L.length ≤ 2000 ∧ inK .i64 x ∧ ∀ (ys : List Int) (q : Nat), ys = L ++ [x] → ys.length = q → k (.agg [.int .i64 n, .row 1 0 0 q]) [] [.row 1 ys]
  | _ => False }
def fpushS : Eng.Spec := { ro := false, own := [], run := fun args _ k => match args with
  | [.agg [.int .i64 n, .sl 1 L], .int .i64 x] => inK .i64 n ∧ L.length ≤ 2000 ∧ inK .i64 x ∧ k (.agg [.int .i64 n, .sl 1 (L ++ [x])]) [] []
  | _ => False }
def F1 : Tab := [(16, flastS)]
def fsumLoops (n : Int) (L : List Int) : List Nat → Nat → Option LoopAnn := fun _ r => match r with
  | 4 => some { V := Int × Int × Int × List Int, st := fun v => ⟨mk 63 [(3, .sl 1 v.2.2.2), (4, .int .i64 v.1), (5, .int .i64 v.2.1), (6, .int .i64 v.2.2.1)], [], []⟩, I := fun v => (0 ≤ v.2.2.1 ∧ v.2.2.1 ≤ v.2.2.2.length) ∧ v.2.2.2 = lastL n.toNat L ∧ v.2.2.2.length ≤ 2000 ∧ v.1 * 2147483648 + v.2.1 = sumL (v.2.2.2.take v.2.2.1.toNat) ∧ (-4294967296 * v.2.2.1 ≤ v.1 ∧ v.1 ≤ 4294967296 * v.2.2.1) ∧ (-2147483648 * v.2.2.1 ≤ v.2.1 ∧ v.2.1 ≤ 2147483648 * v.2.2.1), μ := fun v => (v.2.2.2.length - v.2.2.1).toNat }
  | _ => none
def fsameLoops (a b : List Int) : List Nat → Nat → Option LoopAnn := fun _ r => match r with
  | 4 => some { V := Int, st := fun v => ⟨mk 26 [(0, .sl 1 a), (1, .sl 1 b), (5, .int .i64 v)], [], []⟩, I := fun v => (0 ≤ v ∧ v ≤ a.length) ∧ a.take v.toNat = b.take v.toNat, μ := fun v => (a.length - v).toNat }
  | _ => none
def pushesLoops (n : Int) (l : List Int) (p : Int) : List Nat → Nat → Option LoopAnn := fun s r => match r with
  | 10 => some { V := Int × Int × Int × List Int, st := fun v => ⟨mk 139 [(0, .int .i64 n), (1, .sl 1 l), (2, .int .i64 p), (7, .ptr 4001 0), (9, .ptr 5005 0), (11, .int .i64 v.1)], [], [(4001, .cells [.row 1 4002 0 n.toNat, .int .i64 v.2.1, .int .i64 v.2.2.1]), (4002, .row 1 v.2.2.2), (5005, .cells [.int .i64 n, .sl 1 (l.take v.1.toNat)])]⟩, I := fun v => (0 ≤ v.1 ∧ v.1 ≤ l.length + 1) ∧ rOk n.toNat v.2.1 v.2.2.1 v.2.2.2 ∧ RInv n.toNat v.2.1 v.2.2.1 v.2.2.2 (l.take v.1.toNat), μ := fun v => (l.length + 1 - v.1).toNat, key := fun v => v.1.toNat }
  | 19 => some { V := Int × Int × Int × List Int × Nat × List Int, st := fun v => ⟨mk 139 [(0, .int .i64 n), (1, .sl 1 l), (2, .int .i64 p), (7, .ptr 4001 0), (9, .ptr 5005 0), (11, .int .i64 (s.headD 0 : Nat)), (16, .row 1 15001 0 v.2.2.2.2.1), (20, .int .i64 v.1)], [], [(4001, .cells [.row 1 4002 0 n.toNat, .int .i64 v.2.1, .int .i64 v.2.2.1]), (4002, .row 1 v.2.2.2.1), (5005, .cells [.int .i64 n, .sl 1 (l.take (s.headD 0))]), (15001, .row 1 v.2.2.2.2.2)]⟩, I := fun v => (0 ≤ v.1 ∧ v.1 ≤ v.2.2.2.2.1) ∧ rOk n.toNat v.2.1 v.2.2.1 v.2.2.2.1 ∧ RInv n.toNat v.2.1 v.2.2.1 v.2.2.2.1 (l.take (s.headD 0)) ∧ v.2.2.2.2.2.length = v.2.2.2.2.1, μ := fun v => (v.2.2.2.2.1 - v.1).toNat }
  | _ => none
end Go.Proofs.Ytcnnbofjgmohaaa

