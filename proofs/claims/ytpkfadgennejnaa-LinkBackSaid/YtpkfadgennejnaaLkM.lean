import Derived.Test.YtpkfadgennejnaaLkF
import Derived.Test.YtpkfadgennejnaaLkP
import Derived.Test.YtpkfadgennejnaaEngZ
namespace Go.Proofs.Ytpkfadgennejnaa
open Go Go.Eng Go.Rw Go.Lk Go.Proofs
set_option linter.unusedVariables false
def smallS : Eng.Spec := { ro := true, own := [], run := fun args _ k => match args with
  | [.int .u64 n] => inK .u64 n ∧ ∀ (ys : List UInt8) (q : Nat), ys = smallL n.toNat → ys.length = q → q ≤ 10 → k (.row 0 0 0 q) [] [.row 0 ys]
  | _ => False }
def smallLoops (n : Int) : List Nat → Nat → Option LoopAnn := fun _ r => match r with
  | 2 => some { V := Nat × Nat × List UInt8, st := fun v => ⟨mk 19 [(0, .int .u64 v.1), (3, .row 0 7777 0 v.2.1)], [], [(7777, .row 0 v.2.2)]⟩,
                I := fun v => v.2.2.length = v.2.1 ∧ v.2.1 < 10 ∧ v.1 < 2 ^ (64 - 7 * v.2.1) ∧ v.2.2 ++ smallF (10 - v.2.1) v.1 = smallL n.toNat, μ := fun v => 10 - v.2.1, boxes := [(3, 7777, 0)] }
  | _ => none
def readS : Eng.Spec := { ro := true, own := [], run := fun args _ k => match args with
  | [.sl 0 xs] => xs.length ≤ 1000000 ∧ ∀ (a b c : Int), a = (readG 0 0 xs).1 → b = (readG 0 0 xs).2.1 → c = (readG 0 0 xs).2.2 → inK .u64 a → (0 ≤ b ∧ b ≤ 10) → (c = 0 ∨ c = 8) → k (.tup [.int .u64 a, .int .i64 b, .int .i64 c]) [] []
  | _ => False }
def readLoops (xs : List UInt8) : List Nat → Nat → Option LoopAnn := fun _ r => match r with
  | 3 => some { V := Nat × Nat, st := fun v => ⟨mk 41 [(5, .int .u64 v.2), (8, .sl 0 xs), (9, .int .i64 xs.length), (10, .int .i64 v.1)], [], []⟩,
                I := fun v => v.1 ≤ xs.length ∧ v.1 ≤ 9 ∧ v.2 < 128 ^ v.1 ∧ readG v.1 v.2 (xs.drop v.1) = readG 0 0 xs, μ := fun v => xs.length - v.1 }
  | _ => none
def rsmallLoops (n : Int) : List Nat → Nat → Option LoopAnn := fun _ r => match r with
  | 2 => some { V := Nat × Nat × List UInt8, st := fun v => ⟨mk 20 [(0, .int .u64 v.1), (3, .row 0 7777 0 v.2.1)], [], [(7777, .row 0 v.2.2)]⟩,
                I := fun v => v.2.2.length = v.2.1 ∧ v.2.1 < 10 ∧ v.1 < 2 ^ (64 - 7 * v.2.1) ∧ v.2.2 ++ smallF (10 - v.2.1) v.1 = smallL n.toNat, μ := fun v => 10 - v.2.1, boxes := [(3, 7777, 0)] }
  | _ => none
def rreadLoops (xs : List UInt8) : List Nat → Nat → Option LoopAnn := fun _ r => match r with
  | 2 => some { V := Nat, st := fun k => ⟨mk 71 [(0, .sl 0 xs), (5, .int .i64 k)], [], []⟩,
                I := fun k => k ≤ xs.length ∧ k ≤ 10 ∧ hiS xs k, μ := fun k => 10 - k }
  | 8 => some { V := Nat × Int × Int, st := fun v => ⟨mk 71 [(0, .sl 0 xs), (5, .int .i64 v.1), (6, .int .u64 v.2.2), (7, .int .i64 v.2.1)], [], []⟩,
                I := fun v => v.1 < xs.length ∧ v.1 ≤ 9 ∧ okR xs v.1 ∧ (-1 ≤ v.2.1 ∧ v.2.1 ≤ v.1) ∧ v.2.2 = (valL ((xs.take (v.1 + 1)).drop (v.2.1 + 1).toNat) : Int), μ := fun v => (v.2.1 + 1).toNat }
  | _ => none
def equalS : Eng.Spec := { ro := true, own := [], run := fun args _ k => match args with
  | [.sl 0 a, .sl 0 b] => ∀ r : Bool, (r = true ↔ a = b) → k (.bool r) [] []
  | _ => False }
def inS : Eng.Spec := { ro := true, own := [], run := fun args _ k => match args with
  | [.int .i64 n, .int .i64 a, .int .i64 b] => ∀ r : Bool, (r = true ↔ a ≤ n ∧ n ≤ b) → k (.bool r) [] []
  | _ => False }
def sitedS : Eng.Spec := { ro := true, own := [], run := fun args _ k => match args with
  | [.int .i64 n] => inK .i64 n ∧ ∀ r : Bool, (r = true ↔ 0 ≤ n ∧ n ≤ 65535) → k (.bool r) [] []
  | _ => False }
def sameIS : Eng.Spec := { ro := true, own := [], run := fun args _ k => match args with
  | [.sl 1 a, .sl 1 b] => ∀ r : Bool, (r = true ↔ a = b) → k (.bool r) [] []
  | _ => False }
structure eqI (a b : List Int) (i : Nat) : Prop where
  e : a.take i = b.take i
theorem eqi_step {a b : List Int} {i j : Nat} (h : eqI a b i) (hi : i < a.length) (hm : i < b.length) (hj : j = i + 1) (he : a.getD i 0 = b.getD i 0) : eqI a b j := by
  subst hj
  exact ⟨by rw [take_step a 0 hi, take_step b 0 hm, h.e, he]⟩
def sameILoops (a b : List Int) : List Nat → Nat → Option LoopAnn := fun _ r => match r with
  | 4 => some { V := Nat, st := fun v => ⟨mk 26 [(0, .sl 1 a), (1, .sl 1 b), (5, .int .i64 v)], [], []⟩, I := fun v => v ≤ a.length ∧ a.length = b.length ∧ eqI a b v, μ := fun v => a.length - v }
  | _ => none
/-- Bytes put behind nothing, or behind bytes of one's own. -/
def putN : Eng.Spec := { ro := true, own := [true], lend := fun j => Nat.beq j 0, run := fun args B k => match args, B with
  | [.nilsl, .sl 1 l], [] => l.length ≤ 1000000 ∧ ∀ (ys : List UInt8) (n : Nat), ys = sms l → ys.length = n → k (.row 0 0 0 n) [] [.row 0 ys]
  | _, _ => False }
def putB : Eng.Spec := { ro := true, own := [true], lend := fun j => Nat.beq j 0, run := fun args B k => match args, B with
  | [.row 0 900 0 q, .sl 1 l], [.row 0 xs] => (q = xs.length ∧ q ≤ 1000000 ∧ l.length ≤ 1000000) ∧ ∀ (ys : List UInt8) (n : Nat), ys = xs ++ sms l → ys.length = n → k (.row 0 1 0 n) [none] [.row 0 ys]
  | _, _ => False }
def putX : Eng.Spec := { ro := true, own := [true], lend := fun j => Nat.beq j 0, run := fun args B k => match args, B with
  | [.nilsl, .sl 1 l], [] => l.length ≤ 1000000 ∧ ∀ (ys : List UInt8) (n : Nat), ys = sms l → ys.length = n → k (.row 0 0 0 n) [] [.row 0 ys]
  | [.row 0 900 0 q, .sl 1 l], [.row 0 xs] => (q = xs.length ∧ q ≤ 1000000 ∧ l.length ≤ 1000000) ∧ ∀ (ys : List UInt8) (n : Nat), ys = xs ++ sms l → ys.length = n → k (.row 0 1 0 n) [none] [.row 0 ys]
  | _, _ => False }
theorem put_up {f : FuncId} (h1 : Holds Try.prog f putN) (h2 : Holds Try.prog f putB) : Holds Try.prog f putX := h1.orB h2 rfl rfl rfl fun args B k h => by
  unfold putX at h
  dsimp only at h
  split at h
  · exact .inl h
  · exact .inr h
  · exact h.elim
def putNLoops (l : List Int) : List Nat → Nat → Option LoopAnn := fun _ r => match r with
  | 2 => some { V := Nat × Nat × List UInt8, st := fun v => ⟨mk 20 [(0, .row 0 7777 0 v.2.1), (7, .sl 1 l), (8, .int .i64 l.length), (9, .int .i64 v.1)], [], [(7777, .row 0 v.2.2)]⟩, I := fun v => v.1 ≤ l.length ∧ l.length ≤ 1000000 ∧ v.2.2.length = v.2.1 ∧ v.2.1 ≤ 10 * v.1 ∧ v.2.2 = sms (l.take v.1), μ := fun v => l.length - v.1, boxes := [(0, 7777, 0)] }
  | _ => none
def putBLoops (q : Nat) (l : List Int) (xs : List UInt8) : List Nat → Nat → Option LoopAnn := fun _ r => match r with
  | 2 => some { V := Nat × Nat × List UInt8, st := fun v => ⟨mk 20 [(0, .row 0 900 0 v.2.1), (7, .sl 1 l), (8, .int .i64 l.length), (9, .int .i64 v.1)], [], [(900, .row 0 v.2.2)]⟩, I := fun v => v.1 ≤ l.length ∧ (q = xs.length ∧ q ≤ 1000000 ∧ l.length ≤ 1000000) ∧ v.2.2.length = v.2.1 ∧ v.2.1 ≤ 1000000 + 10 * v.1 ∧ v.2.2 = xs ++ sms (l.take v.1), μ := fun v => l.length - v.1 }
  | _ => none
def ticksS : Eng.Spec := { ro := true, own := [], run := fun args _ k => match args with
  | [.sl 1 [(n : Int)]] => inK .i64 n ∧ ∀ r : Bool, (r = true ↔ 1 ≤ n ∧ n ≤ 1048576) → k (.bool r) [] []
  | _ => False }
def ticksLoops (n : Int) : List Nat → Nat → Option LoopAnn := fun _ r => match r with
  | 2 => some { V := Nat, st := fun v => ⟨mk 15 [(5, .sl 1 [n]), (6, .int .i64 1), (7, .int .i64 v)], [], []⟩, I := fun v => v ≤ 1 ∧ (v = 1 → 1 ≤ n ∧ n ≤ 1048576), μ := fun v => 1 - v }
  | _ => none
/-- One number, read. -/
def oneS : Eng.Spec := { ro := true, own := [false], lend := fun j => Nat.beq j 0, run := fun args B k => match args, B with
  | [.ptr 0 0, .int .i64 m], [.cells [.sl 0 b, .bool bad]] => (0 ≤ m ∧ m ≤ 9223372036854775807) ∧ b.length ≤ 1000000 ∧ ∀ (v : Int) (r : List UInt8) (bd : Bool), v = oneV m b → r = oneR m b → bd = (bad || oneB m b) → (0 ≤ v ∧ v ≤ m) → r.length ≤ b.length → k (.int .i64 v) [some (.cells [.sl 0 r, .bool bd])] []
  | _, _ => False }
def smsS : Eng.Spec := { ro := true, own := [], run := fun args _ k => match args with
  | [.sl 1 l] => l.length ≤ 1000000 ∧ ∀ (ys : List UInt8) (n : Nat), ys = sms l → ys.length = n → k (.row 0 0 0 n) [] [.row 0 ys]
  | _ => False }
def smsLoops (l : List Int) : List Nat → Nat → Option LoopAnn := fun _ r => match r with
  | 3 => some { V := Nat × Nat × List UInt8, st := fun v => ⟨mk 20 [(0, .sl 1 l), (3, .row 0 7777 0 v.2.1), (4, .int .i64 v.1)], [], [(7777, .row 0 v.2.2)]⟩, I := fun v => v.1 ≤ l.length ∧ l.length ≤ 1000000 ∧ v.2.2.length = v.2.1 ∧ v.2.1 ≤ 10 * v.1 ∧ v.2.2 = sms (l.take v.1), μ := fun v => l.length - v.1, boxes := [(3, 7777, 0)] }
  | _ => none
def M1 : Tab := [(47, smallS), (46, inS), (50, readS), (39, smallS), (51, readS), (49, inS)]
end Go.Proofs.Ytpkfadgennejnaa

