import Derived.Test.YtpkfadgennejnaaLkJ
import Derived.Test.YtpkfadgennejnaaEngU
namespace Go.Proofs.Ytpkfadgennejnaa
open Go Go.Eng Go.Lk Go.Proofs
set_option linter.unusedVariables false
def tyY : Nat → Nat := fun t => match tyC t with
  | 8 => 12
  | 9 => 13
  | n => n
noncomputable def mkEnvY (yb : Nat) (T : Tab) : Env := mkY Try.prog tyY (yb, none) T
noncomputable def mkEnvW (yb : Nat) (T : Tab) : Env := mkY Try.prog tyC (0, some yb) T
def md1 (j m : Nat) (i : Nat) : Nat := match Nat.beq i j with
  | true => m
  | false => 0
/-- A message in memory that is not older than yb. -/
def yng (yb : Nat) (m : Msg) : YMsg := ⟨yb, m.kind, m.seq, m.body⟩
theorem old_yng (yb : Nat) (l : List Msg) : (l.map (yng yb)).map YMsg.old = l := by
  induction l with
  | nil => rfl
  | cons m r ih => rw [List.map_cons, List.map_cons, ih]; rfl
theorem mk_yng (yb : Nat) (m : Msg) : (⟨yb, UInt8.ofNat (m.kind.toNat : Int).toNat, UInt32.ofNat (m.seq.toNat : Int).toNat, List.take m.body.length (List.drop 0 m.body)⟩ : YMsg) = yng yb m := by
  have := mk_msg m
  have h1 := congrArg Msg.kind this
  have h2 := congrArg Msg.seq this
  have h3 := congrArg Msg.body this
  dsimp only at h1 h2 h3
  unfold yng
  rw [h1, h2, h3]
def nextY (yb : Nat) : Eng.Spec := { ro := false, own := [], run := fun args _ k => match args with
  | [.agg [.bool an, .int .u32 la, .int .i64 ag], .sl 8 got] => inK .u32 la ∧ inK .i64 ag ∧ (∀ e : Int, e = lE an la ag got → e ≠ 0 → k (.tup [.agg [.bool false, .int .u32 0, .int .i64 0], .nilsl, .int .i64 e]) [] []) ∧ (lE an la ag got = 0 → ∀ (b : Bool) (l a : Int) (ys : List YMsg) (n : Nat), (b, l) = stk (an, la) got → inK .u32 l → ys = (tk (an, la) got).map (yng yb) → ys.length = n → a = ageN ag n → k (.tup [.agg [.bool b, .int .u32 l, .int .i64 a], .row 12 0 0 n, .int .i64 0]) [] [.row 12 ys])
  | _ => False }
def nextYLoops (yb : Nat) (an : Bool) (la ag : Int) (got : List Msg) : List Nat → Nat → Option LoopAnn := fun _ r => match r with
  | 7 => some { V := Int, st := fun v => ⟨mk 74 [(1, .sl 8 got), (2, .ptr 1000 0), (4, .ptr 1001 0), (23, .sl 8 got), (24, .int .i64 got.length), (25, .int .i64 v)], [], [(1000, .cells [.bool an, .int .u32 la, .int .i64 ag]), (1001, .cells [.bool false, .int .u32 0, .int .i64 0])]⟩, I := fun v => (0 ≤ v ∧ v ≤ got.length) ∧ ∀ j, j < v.toNat → (got.getD j (dflt 8)).body.length ≤ 512, μ := fun v => (got.length - v).toNat }
  | 14 => some { V := Int × Bool × Int × Nat × List YMsg, st := fun v => ⟨mk 74 [(2, .ptr 1000 0), (4, .ptr 1001 0), (10, .row 12 7777 0 v.2.2.2.1), (35, .sl 8 got), (36, .int .i64 got.length), (37, .int .i64 v.1)], [], [(1000, .cells [.bool v.2.1, .int .u32 v.2.2.1, .int .i64 ag]), (1001, .cells [.bool false, .int .u32 0, .int .i64 0]), (7777, .row 12 v.2.2.2.2)]⟩, I := fun v => (0 ≤ v.1 ∧ v.1 ≤ got.length) ∧ (0 ≤ v.2.2.1 ∧ v.2.2.1 ≤ 4294967295) ∧ (v.2.1, v.2.2.1) = stk (an, la) (got.take v.1.toNat) ∧ v.2.2.2.2 = (tk (an, la) (got.take v.1.toNat)).map (yng yb) ∧ v.2.2.2.2.length = v.2.2.2.1 ∧ (v.2.2.2.1 : Int) ≤ v.1 ∧ got.length ≤ 1024 ∧ bigB got = false, μ := fun v => (got.length - v.1).toNat, boxes := [(10, 7777, 12)] }
  | _ => none
end Go.Proofs.Ytpkfadgennejnaa

