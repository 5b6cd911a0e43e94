import Derived.Test.YtilbglkpbjamfaaEngY
import Derived.Test.YtilbglkpbjamfaaFrA
import Derived.Test.YtilbglkpbjamfaaLit
namespace Go.Proofs.Ytilbglkpbjamfaa
open Go Go.Eng Go.Rw Go.Fr Go.Proofs
set_option linter.unusedVariables false
noncomputable def mkEnv (T : Tab) : Env := mkE Try.prog tyC T
def T0 : Tab := []
theorem T0_ok : TabOk Try.prog T0 := trivial
def clone0S : Eng.Spec := { ro := true, own := [], run := fun args _ k => match args with
  | [.sl 0 xs] => xs.length ≤ 1000000 ∧ (xs = [] → k .nilsl [] []) ∧ k (.row 0 0 0 xs.length) [] [.row 0 xs]
  | _ => False }
def cloneS : Eng.Spec := { ro := true, own := [], run := fun args _ k => match args with
  | [.sl 0 xs] => xs.length ≤ 1000000 ∧ k (.row 0 0 0 xs.length) [] [.row 0 xs]
  | _ => False }
def putF (n w : Int) : List UInt8 := if putOk n w = true then putL n.toNat w.toNat else []
def putE (n w : Int) : Int := if putOk n w = true then 0 else 2
def put0S : Eng.Spec := { ro := true, own := [], run := fun args _ k => match args with
  | [.int .u64 n, .int .i64 w] => inK .u64 n ∧ inK .i64 w ∧ (putOk n w = true → ∀ (ys : List UInt8) (q : Nat), ys = putL n.toNat w.toNat → (q : Int) = w → k (.tup [.row 0 0 0 q, .int .i64 0]) [] [.row 0 ys]) ∧ (putOk n w = false → k (.tup [.nilsl, .int .i64 2]) [] [])
  | _ => False }
def putS : Eng.Spec := { ro := true, own := [], run := fun args _ k => match args with
  | [.int .u64 n, .int .i64 w] => inK .u64 n ∧ inK .i64 w ∧ ∀ (ys : List UInt8) (q : Nat) (e : Int), ys = putF n w → ys.length = q → e = putE n w → (e = 0 ∨ e = 2) → k (.tup [.row 0 0 0 q, .int .i64 e]) [] [.row 0 ys]
  | _ => False }
theorem put_up {f : FuncId} (h : Holds Try.prog f put0S) : Holds Try.prog f putS := h.nl2 0 rfl rfl rfl fun args k h => by
  unfold putS at h
  dsimp only at h
  split at h
  · obtain ⟨h1, h2, h3⟩ := h
    refine ⟨h1, h2, fun hp ys q hy hq => h3 ys q 0 (by unfold putF; rw [if_pos hp]; exact hy) (by rw [hy, putL_len]; omega) (by unfold putE; rw [if_pos hp]) (.inl rfl), fun hp => h3 [] 0 2 (by unfold putF; rw [if_neg (by rw [hp]; decide)]) rfl (by unfold putE; rw [if_neg (by rw [hp]; decide)]) (.inr rfl)⟩
  · exact h.elim
def putLoops (n w : Int) : List Nat → Nat → Option LoopAnn := fun _ r => match r with
  | 5 => some { V := Nat × List UInt8, st := fun v => ⟨mk 42 [(0, .int .u64 n), (6, .row 0 4001 0 w.toNat), (28, .int .i64 w), (29, .int .i64 v.1)], [], [(4001, .row 0 v.2)]⟩,
                I := fun v => v.1 ≤ w.toNat ∧ v.2 = putL n.toNat v.1 ++ List.replicate (w.toNat - v.1) (0 : UInt8) ∧ v.2.length = w.toNat, μ := fun v => w.toNat - v.1 }
  | _ => none
theorem putF4 {n : Int} (h0 : 0 ≤ n) (h1 : n ≤ 4294967295) : putF n 4 = putL n.toNat 4 := by
  have e : putOk n 4 = true := by
    unfold putOk
    rw [decide_eq_true_eq]
    refine ⟨by decide, by decide, ?_⟩
    show n.toNat < 4294967296
    omega
  unfold putF
  rw [if_pos e]; rfl
theorem getV4 {xs : List UInt8} (h : xs.length = 4) : (if getOk xs = true then (getL xs : Int) else 0) = getL xs := by
  rw [if_pos]
  unfold getOk
  rw [decide_eq_true_eq]; omega
def getV (xs : List UInt8) : Int := if getOk xs = true then (getL xs : Int) else 0
def getE (xs : List UInt8) : Int := if getOk xs = true then 0 else 8
def getS : Eng.Spec := { ro := true, own := [], run := fun args _ k => match args with
  | [.sl 0 xs] => ∀ a e : Int, a = getV xs → e = getE xs → inK .u64 a → (e = 0 ∨ e = 8) → k (.tup [.int .u64 a, .int .i64 e]) [] []
  | _ => False }
def getLoops (xs : List UInt8) : List Nat → Nat → Option LoopAnn := fun _ r => match r with
  | 4 => some { V := Nat × Int, st := fun v => ⟨mk 30 [(2, .int .u64 v.2), (14, .sl 0 xs), (15, .int .i64 xs.length), (16, .int .i64 v.1)], [], []⟩,
                I := fun v => v.1 ≤ xs.length ∧ xs.length ≤ 8 ∧ v.2 = (getL (xs.take v.1) : Int), μ := fun v => xs.length - v.1 }
  | _ => none
def sumS : Eng.Spec := { ro := true, own := [], run := fun args _ k => match args with
  | [.sl 0 xs] => ∀ n : Int, n = (sumN xs : Nat) → inK .u32 n → k (.int .u32 n) [] []
  | _ => False }
def sumLoops (xs : List UInt8) : List Nat → Nat → Option LoopAnn := fun _ r => match r with
  | 4 => some { V := Nat × Nat, st := fun v => ⟨mk 38 [(3, .ptr 2001 0), (4, .int .u32 v.2), (8, .sl 0 xs), (9, .int .i64 xs.length), (10, .int .i64 v.1)], [], [(2001, .row 2 tabL)]⟩, I := fun v => v.1 ≤ xs.length ∧ v.2 = crc 4294967295 (xs.take v.1) ∧ v.2 < 4294967296, μ := fun v => xs.length - v.1 }
  | _ => none
def stuffS : Eng.Spec := { ro := true, own := [], run := fun args _ k => match args with
  | [.sl 0 b] => b.length ≤ 1000000 ∧ ∀ (ys : List UInt8) (n : Nat), ys = stf b → ys.length = n → k (.row 0 0 0 n) [] [.row 0 ys]
  | _ => False }
def stuffLoops (b : List UInt8) : List Nat → Nat → Option LoopAnn := fun _ r => match r with
  | 3 => some { V := Nat × List UInt8, st := fun v => ⟨mk 32 [(3, .row 0 2002 0 v.2.length), (9, .sl 0 b), (10, .int .i64 b.length), (11, .int .i64 v.1)], [], [(2002, .row 0 v.2)]⟩, I := fun v => v.1 ≤ b.length ∧ v.2 = stf (b.take v.1) ∧ v.2.length ≤ 2 * v.1 ∧ b.length ≤ 1000000, μ := fun v => b.length - v.1 }
  | _ => none
def bareS : Eng.Spec := { ro := true, own := [], run := fun args _ k => match args with
  | [.sl 0 b] => b.length ≤ 1000000 ∧ (bare b = none → k (.tup [.nilsl, .int .i64 8]) [] []) ∧ (∀ (o : List UInt8) (n : Nat), bare b = some o → o.length = n → k (.tup [.row 0 0 0 n, .int .i64 0]) [] [.row 0 o])
  | _ => False }
def bareLoops (b : List UInt8) : List Nat → Nat → Option LoopAnn := fun _ r => match r with
  | 4 => some { V := Nat × Bool × List UInt8, st := fun v => ⟨mk 46 [(4, .row 0 2002 0 v.2.2.length), (5, .bool v.2.1), (11, .sl 0 b), (12, .int .i64 b.length), (13, .int .i64 v.1)], [], [(2002, .row 0 v.2.2)]⟩, I := fun v => v.1 ≤ b.length ∧ bfold (b.take v.1) = some (v.2.1, v.2.2) ∧ v.2.2.length ≤ v.1 ∧ b.length ≤ 1000000, μ := fun v => b.length - v.1 }
  | _ => none
def insideS : Eng.Spec := { ro := true, own := [], run := fun args _ k => match args with
  | [.agg [.int .u8 kd, .int .u32 sq, .sl 0 bo]] => inK .u8 kd ∧ inK .u32 sq ∧ (512 < bo.length → k (.tup [.nilsl, .int .i64 3]) [] []) ∧ (bo.length ≤ 512 → ∀ (ys : List UInt8) (n : Nat), ys = ins kd sq bo → ys.length = n → k (.tup [.row 0 0 0 n, .int .i64 0]) [] [.row 0 ys])
  | _ => False }
def openS : Eng.Spec := { ro := true, own := [], run := fun args _ k => match args with
  | [.sl 0 b] => (¬ okO b → k (.tup [.agg [.int .u8 0, .int .u32 0, .nilsl], .int .i64 8]) [] []) ∧ (okO b → ∀ (kd sq : Int) (bo : List UInt8) (n : Nat), kd = oK b → sq = oS b → bo = oB b → bo.length = n → inK .u8 kd → inK .u32 sq → k (.tup [.agg [.int .u8 kd, .int .u32 sq, .row 0 0 0 n], .int .i64 0]) [] [.row 0 bo])
  | _ => False }
def T1 : Tab := [(35, cloneS), (30, putS), (34, getS), (31, sumS)]
end Go.Proofs.Ytilbglkpbjamfaa

