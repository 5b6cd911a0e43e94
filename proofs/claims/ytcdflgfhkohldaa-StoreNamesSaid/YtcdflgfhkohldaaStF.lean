import Derived.Test.YtcdflgfhkohldaaStE
namespace Go.Proofs.Ytcdflgfhkohldaa
open Go Go.Eng Go.Rw Go.Lk Go.Proofs
open Go.Bk hiding take_step drop_step set_mid
open Go.St hiding take_step
set_option linter.unusedVariables false
def ticksS : Eng.Spec := { ro := true, own := [], run := fun args _ k => match args with
  | [.sl 1 [(n : Int)]] => inK .i64 n ∧ ∀ r : Bool, (r = true ↔ 1 ≤ n ∧ n ≤ 1048576) → k (.bool r) [] []
  | _ => False }
def ticksLoops (n : Int) : List Nat → Nat → Option LoopAnn := fun _ r => match r with
  | 2 => some { V := Nat, st := fun v => ⟨mk 15 [(5, .sl 1 [n]), (6, .int .i64 1), (7, .int .i64 v)], [], []⟩, I := fun v => v ≤ 1 ∧ (v = 1 → 1 ≤ n ∧ n ≤ 1048576), μ := fun v => 1 - v }
  | _ => none
/-- Plans, written. -/
def wholeS : Eng.Spec := { ro := true, own := [], run := fun args _ k => match args with
  | [.sl 10 l] => (∀ e : Int, e = wholeE l → e ≠ 0 → (e = 4 ∨ e = 170) → k (.tup [.nilsl, .int .i64 e]) [] []) ∧ (wholeE l = 0 → ∀ (ys : List UInt8) (n : Nat), ys = wholeO l → ys.length = n → k (.tup [.row 0 0 0 n, .int .i64 0]) [] [.row 0 ys])
  | _ => False }
def wholeD : Eng.Spec := { ro := true, own := [], run := fun args _ k => match args with
  | [.sl 10 l] => ∀ (e : Int) (ys : List UInt8) (n : Nat), e = wholeE l → (e = 0 ∨ e = 4 ∨ e = 170) → ys = wholeO l → ys.length = n → n ≤ 1000 → k (.tup [.row 0 0 0 n, .int .i64 e]) [] [.row 0 ys]
  | _ => False }
theorem whole_up {f : FuncId} (hf : Holds Try.prog f wholeS) : Holds Try.prog f wholeD := hf.nlAt 0 0 rfl rfl rfl fun args k h => by
  unfold wholeD at h
  dsimp only at h
  split at h
  · refine ⟨fun e he hz hc => h e [] 0 he (by omega) (by unfold wholeO; rw [if_neg (by rw [← he]; exact hz)]) rfl (by omega), fun hz ys n hy hn => h 0 ys n hz.symm (.inl rfl) hy hn (by rw [← hn, hy]; exact wholeO_len _)⟩
  · exact h.elim
def wholeLoops (l : List Plan) : List Nat → Nat → Option LoopAnn := fun s r => match r, s with
  | 5, _ => some { V := Nat × Nat × List UInt8, st := fun v => ⟨mk 70 [(4, .row 0 7777 0 v.2.1), (16, .sl 10 l), (17, .int .i64 l.length), (18, .int .i64 v.1)], [], [(7777, .row 0 v.2.2)]⟩, I := fun v => v.1 ≤ l.length ∧ l.length ≤ 8 ∧ v.2.2.length = v.2.1 ∧ v.2.1 ≤ 900 ∧ WO l v.1 v.2.2, μ := fun v => l.length - v.1, boxes := [(4, 7777, 0)], key := fun v => v.1 }
  | 11, i :: _ => some { V := Nat × Nat × List UInt8, st := fun v => ⟨mk 70 [(4, .row 0 7778 0 v.2.1), (16, .sl 10 l), (17, .int .i64 l.length), (18, .int .i64 i), (54, .sl 1 (l.getD i (dflt 10)).splits), (55, .int .i64 (l.getD i (dflt 10)).splits.length), (56, .int .i64 v.1)], [], [(7778, .row 0 v.2.2)]⟩, I := fun v => v.1 ≤ (l.getD i (dflt 10)).splits.length ∧ v.2.2.length = v.2.1 ∧ v.2.1 ≤ 1100 ∧ WJ l i v.1 v.2.2, μ := fun v => (l.getD i (dflt 10)).splits.length - v.1, boxes := [(4, 7778, 0)] }
  | _, _ => none
def rwholeLoops (l : List Plan) : List Nat → Nat → Option LoopAnn := fun s r => match r, s with
  | 5, _ => some { V := Nat × Nat × List UInt8, st := fun v => ⟨mk 80 [(0, .sl 10 l), (4, .row 0 7777 0 v.2.1), (5, .int .i64 v.1)], [], [(7777, .row 0 v.2.2)]⟩, I := fun v => v.1 ≤ l.length ∧ l.length ≤ 8 ∧ v.2.2.length = v.2.1 ∧ v.2.1 ≤ 900 ∧ WO l v.1 v.2.2, μ := fun v => l.length - v.1, boxes := [(4, 7777, 0)], key := fun v => v.1 }
  | 12, i :: _ => some { V := Nat × Nat × List UInt8, st := fun v => ⟨mk 80 [(0, .sl 10 l), (4, .row 0 7778 0 v.2.1), (5, .int .i64 i), (6, .ptr 8004 0), (7, .int .i64 v.1)], [], [(7778, .row 0 v.2.2), (8004, .cells [.int .i64 (l.getD i (dflt 10)).cycle, .int .i64 (l.getD i (dflt 10)).offset, .sl 1 (l.getD i (dflt 10)).splits])]⟩, I := fun v => v.1 ≤ (l.getD i (dflt 10)).splits.length ∧ v.2.2.length = v.2.1 ∧ v.2.1 ≤ 1100 ∧ WJ l i v.1 v.2.2, μ := fun v => (l.getD i (dflt 10)).splits.length - v.1, boxes := [(4, 7778, 0)] }
  | _, _ => none
def F1 : Tab := [(60, inS), (58, putX), (59, ticksS)]
def F1r : Tab := [(63, inS), (62, smsS)]
end Go.Proofs.Ytcdflgfhkohldaa

