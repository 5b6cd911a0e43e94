import Derived.Test.YtcccenipmefkiaaRwC
namespace Go.Proofs.Ytcccenipmefkiaa
open Go Go.Eng Go.Rw Go.Proofs
set_option linter.unusedVariables false
def putF (n w : Int) : List UInt8 := if putOk n w = true then putL n.toNat w.toNat else []
def putE (n w : Int) : Int := if putOk n w = true then 0 else 2
def put0S : Eng.Spec := { ro := true, own := [], run := fun args _ k => match args with
  | [.int .u64 n, .int .i64 w] => inK .u64 n ∧ inK .i64 w ∧ (putOk n w = true → ∀ (ys : List UInt8) (q : Nat), ys = putL n.toNat w.toNat → (q : Int) = w → k (.tup [.row 0 0 0 q, .int .i64 0]) [] [.row 0 ys]) ∧ (putOk n w = false → k (.tup [.nilsl, .int .i64 2]) [] [])
  | _ => False }
def putS : Eng.Spec := { ro := true, own := [], run := fun args _ k => match args with
  | [.int .u64 n, .int .i64 w] => inK .u64 n ∧ inK .i64 w ∧ ∀ (ys : List UInt8) (q : Nat) (e : Int), ys = putF n w → ys.length = q → e = putE n w → (e = 0 ∨ e = 2) → k (.tup [.row 0 0 0 q, .int .i64 e]) [] [.row 0 ys]
  | _ => False }
theorem put_up {f : FuncId} (h : Holds Try.prog f put0S) : Holds Try.prog f putS := h.nl2 0 rfl rfl rfl fun args k h => by
  unfold putS at h
  dsimp only at h
  split at h
  · obtain ⟨h1, h2, h3⟩ := h
    refine ⟨h1, h2, fun hp ys q hy hq => h3 ys q 0 (by unfold putF; rw [if_pos hp]; exact hy) (by rw [hy, putL_len]; omega) (by unfold putE; rw [if_pos hp]) (.inl rfl), fun hp => h3 [] 0 2 (by unfold putF; rw [if_neg (by rw [hp]; decide)]) rfl (by unfold putE; rw [if_neg (by rw [hp]; decide)]) (.inr rfl)⟩
  · exact h.elim
def putLoops (n w : Int) : List Nat → Nat → Option LoopAnn := fun _ r => match r with
  | 5 => some { V := Nat × List UInt8, st := fun v => ⟨mk 42 [(0, .int .u64 n), (6, .row 0 4001 0 w.toNat), (28, .int .i64 w), (29, .int .i64 v.1)], [], [(4001, .row 0 v.2)]⟩,
                I := fun v => v.1 ≤ w.toNat ∧ v.2 = putL n.toNat v.1 ++ List.replicate (w.toNat - v.1) (0 : UInt8) ∧ v.2.length = w.toNat, μ := fun v => w.toNat - v.1 }
  | _ => none
def rputLoops (n w : Int) : List Nat → Nat → Option LoopAnn := fun _ r => match r with
  | 5 => some { V := Nat × List UInt8 × Int, st := fun v => ⟨mk 30 [(0, .int .u64 v.2.2), (1, .int .i64 w), (6, .row 0 7777 0 v.1), (7, .int .i64 v.1)], [], [(7777, .row 0 v.2.1)]⟩,
                I := fun v => v.1 ≤ w.toNat ∧ v.2.1 = putL n.toNat v.1 ∧ v.2.1.length = v.1 ∧ v.2.2 = ((n.toNat / 256 ^ v.1 : Nat) : Int) ∧ (0 ≤ v.2.2 ∧ v.2.2 ≤ n), μ := fun v => w.toNat - v.1, boxes := [(6, 7777, 0)] }
  | _ => none
def getV (xs : List UInt8) : Int := if getOk xs = true then (getL xs : Int) else 0
def getE (xs : List UInt8) : Int := if getOk xs = true then 0 else 8
def getS : Eng.Spec := { ro := true, own := [], run := fun args _ k => match args with
  | [.sl 0 xs] => ∀ a e : Int, a = getV xs → e = getE xs → inK .u64 a → (e = 0 ∨ e = 8) → k (.tup [.int .u64 a, .int .i64 e]) [] []
  | _ => False }
def getLoops (xs : List UInt8) : List Nat → Nat → Option LoopAnn := fun _ r => match r with
  | 4 => some { V := Nat × Int, st := fun v => ⟨mk 30 [(2, .int .u64 v.2), (14, .sl 0 xs), (15, .int .i64 xs.length), (16, .int .i64 v.1)], [], []⟩,
                I := fun v => v.1 ≤ xs.length ∧ xs.length ≤ 8 ∧ v.2 = (getL (xs.take v.1) : Int), μ := fun v => xs.length - v.1 }
  | _ => none
def rgetLoops (xs : List UInt8) : List Nat → Nat → Option LoopAnn := fun _ r => match r with
  | 5 => some { V := Int × Int, st := fun v => ⟨mk 30 [(0, .sl 0 xs), (4, .int .u64 v.2), (5, .int .i64 v.1)], [], []⟩,
                I := fun v => (-1 ≤ v.1 ∧ v.1 < xs.length) ∧ (1 ≤ xs.length ∧ xs.length ≤ 8) ∧ v.2 = (getL (xs.drop (v.1 + 1).toNat) : Int), μ := fun v => (v.1 + 1).toNat }
  | _ => none
def rsmallLoops (n : Int) : List Nat → Nat → Option LoopAnn := fun _ r => match r with
  | 2 => some { V := Nat × Nat × List UInt8, st := fun v => ⟨mk 20 [(0, .int .u64 v.1), (3, .row 0 7777 0 v.2.1)], [], [(7777, .row 0 v.2.2)]⟩,
                I := fun v => v.2.2.length = v.2.1 ∧ v.2.1 < 10 ∧ v.1 < 2 ^ (64 - 7 * v.2.1) ∧ v.2.2 ++ smallF (10 - v.2.1) v.1 = smallL n.toNat, μ := fun v => 10 - v.2.1, boxes := [(3, 7777, 0)] }
  | _ => none
def rreadLoops (xs : List UInt8) : List Nat → Nat → Option LoopAnn := fun _ r => match r with
  | 2 => some { V := Nat, st := fun k => ⟨mk 71 [(0, .sl 0 xs), (5, .int .i64 k)], [], []⟩,
                I := fun k => k ≤ xs.length ∧ k ≤ 10 ∧ hiS xs k, μ := fun k => 10 - k }
  | 8 => some { V := Nat × Int × Int, st := fun v => ⟨mk 71 [(0, .sl 0 xs), (5, .int .i64 v.1), (6, .int .u64 v.2.2), (7, .int .i64 v.2.1)], [], []⟩,
                I := fun v => v.1 < xs.length ∧ v.1 ≤ 9 ∧ okR xs v.1 ∧ (-1 ≤ v.2.1 ∧ v.2.1 ≤ v.1) ∧ v.2.2 = (valL ((xs.take (v.1 + 1)).drop (v.2.1 + 1).toNat) : Int), μ := fun v => (v.2.1 + 1).toNat }
  | _ => none
def lawNum : Eng.Spec := { ro := true, own := [], run := fun args _ k => match args with
  | [.int .u64 n, .int .i64 w, .sl 0 xs] => inK .u64 n ∧ inK .i64 w ∧ k (.bool true) [] []
  | _ => False }
end Go.Proofs.Ytcccenipmefkiaa

