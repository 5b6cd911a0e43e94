import Derived.Test.YtcdflgfhkohldaaEngZ
import Derived.Test.YtcdflgfhkohldaaProg
import Derived.Lib.MakeNoZero
import Derived.Test.YtcdflgfhkohldaaEngT
import Derived.Test.YtcdflgfhkohldaaLit
import Derived.Test.YtcdflgfhkohldaaLkP
import Derived.Test.YtcdflgfhkohldaaBkA
import Derived.Test.YtcdflgfhkohldaaStA
namespace Go.Proofs.Ytcdflgfhkohldaa
open Go Go.Eng Go.Proofs Go.Lib
set_option linter.unusedVariables false
def mnzS : Eng.Spec := { ro := true, own := [], run := fun args _ k => match args with
  | [.int .i64 n] => (0 ≤ n ∧ n ≤ 1000000) ∧ ∀ (xs : List UInt8) (q : Nat), (q : Int) = n → xs.length = q → k (.row 0 0 0 q) [] [.row 0 xs]
  | _ => False }
def IsByte (v : Value) : Prop := ∃ x : Nat, x < 256 ∧ v = .int .u8 (x : Int)
theorem digits_byte : ∀ (n t : Nat) (acc : Array Value), (∀ v ∈ acc, IsByte v) → ∀ v ∈ Extern.BytealgMakeNoZero.digits n t acc, IsByte v
  | 0, _, _, h => h
  | n + 1, t, acc, h => by
    rw [Extern.BytealgMakeNoZero.digits]
    refine digits_byte n _ _ fun v hv => ?_
    rcases Array.mem_push.1 hv with hv | hv
    · exact h v hv
    · exact ⟨t % 256, Nat.mod_lt _ (by decide), hv⟩
theorem mnz_run {P : Program} (w : World) (ps : Array TypeId) (t e : TypeId) (ht : P.underlying t = some (.slice e)) (n : Nat) (hn : n ≤ 1000000) :
    ∃ cs : Array Value, (Extern.BytealgMakeNoZero.makeNoZero ps #[t] #[.int .i64 n]).run P w = .ok (.slice (some ⟨w.heap.size, 0, none⟩) n cs.size) (w.drew.drew.alloc (.cells cs e)) ∧ n ≤ cs.size ∧ cs.size ≤ maxLen ∧ ∀ v ∈ cs, IsByte v := by
  refine ⟨Extern.BytealgMakeNoZero.digits (grownCap w n 0 e) ((Question.extern "internal/bytealg.MakeNoZero.bytes" 0).cut (w.tape (w.drawn + 1) (.extern "internal/bytealg.MakeNoZero.bytes" 0))) #[], ?_, ?_, ?_, ?_⟩
  · refine (show _ = ((underlying t >>= ?f) : Sem Value).run P w from rfl).trans ?_
    have h1 : ¬ (n : Int) < 0 := by omega
    have h2 : ¬ (281474976710656 : Int) < (n : Int) := by omega
    simp [run_underlying ht, h1, h2, Question.forced, newRow, size_digits, grownCap]
  · rw [size_digits]
    simpa using grownCap_ge w n 0 e
  · rw [size_digits]
    simpa using grownCap_le_maxLen w n 0 e (by unfold maxLen; omega)
  · exact digits_byte _ _ _ fun v hv => by simp at hv
def byteOf : Value → UInt8
  | .int _ z => UInt8.ofNat z.toNat
  | _ => 0
set_option maxRecDepth 20000 in
theorem mnz_ok : Holds Try.prog 61 mnzS := by
  refine HoldsA.h ?_ rfl
  intro w im vals args k o a next Q him hKc hlen hrep hrun hnext
  unfold mnzS at hrun
  dsimp only at hrun
  split at hrun
  · rename_i n
    obtain ⟨hx, hk⟩ := hrun
    obtain ⟨u, rfl⟩ : ∃ u, vals = #[u] := by
      match vals, hlen with
      | ⟨[u]⟩, _ => exact ⟨u, rfl⟩
    obtain ⟨rfl, -⟩ := (hrep 0 u rfl).inv_int
    have hx0 : 0 ≤ n := hx.1
    have hx1 : n ≤ 1000000 := hx.2
    obtain ⟨m, hm⟩ : ∃ m : Nat, n = (m : Int) := ⟨n.toNat, by omega⟩
    subst hm
    have hm1 : m ≤ 1000000 := by omega
    obtain ⟨cs, hr, h1, h2, h3⟩ := mnz_run (P := Try.prog) w #[3] 32 5 (by kernel_rfl) m hm1
    rw [run_callFunc_extern Try.func61 (by kernel_rfl) (by kernel_rfl) (by kernel_rfl) (e := Extern.BytealgMakeNoZero.makeNoZero #[3] #[32]) (by kernel_rfl), hr]
    show next _ _
    have hxl : ((cs.toList.take m).map byteOf).length = m := by rw [List.length_map, List.length_take, Array.length_toList]; omega
    refine hnext _ _ (fun b => (true : Bool) = false ∧ im b) (fun j => if j = 0 then some (some w.heap.size, m) else none) (.row 0 0 0 m) [.row 0 ((cs.toList.take m).map byteOf)] (hk _ m rfl hxl) ?_
    exact {
      below := ((RowKit.Below.refl _ w).drew.drew).alloc (Nat.le_refl _) _
      imold := fun e => by cases e
      imnew := fun b hb => .inl hb
      dom := fun j hj => by
        have : j ≠ 0 := by rintro rfl; simp at hj
        rw [if_neg this]
      blk := fun j b hj => by
        cases j with
        | succ j => simp at hj
        | zero =>
          simp only [List.getElem?_cons_zero, Option.some.injEq] at hj
          subst hj
          refine ⟨(some w.heap.size, m), if_pos rfl, hxl.symm, .inr ⟨w.heap.size, cs, 5, cs.size, rfl, new_get w.drew.drew _, by show cs.size = cs.size * 1; omega, by rw [hxl]; exact h1, h2, fun j v hv => ?_, fun i j x v hi hj hv => ?_⟩⟩
          · obtain ⟨y, -, rfl⟩ := h3 v (Array.mem_of_getElem? hv)
            rfl
          · have hj0 : j = 0 := by have : szOf 0 = 1 := rfl; omega
            subst hj0
            have hv : cs[i]? = some v := by have e : i * szOf 0 + 0 = i := by show i * 1 + 0 = i; omega
                                            rw [e] at hv; exact hv
            obtain ⟨y, hy, rfl⟩ := h3 v (Array.mem_of_getElem? hv)
            rw [List.getElem?_map, List.getElem?_take] at hi
            split at hi
            · have e2 : cs.toList[i]? = some (.int .u8 (y : Int)) := by simpa using hv
              rw [e2] at hi
              simp only [Option.map_some, Option.some.injEq] at hi
              subst hi
              have e3 : ((byteOf (.int .u8 (y : Int))).toNat : Int) = (y : Int) := by
                show ((UInt8.ofNat (y : Int).toNat).toNat : Int) = _
                rw [Int.toNat_natCast]
                have : (UInt8.ofNat y).toNat = y := by rw [UInt8.toNat_ofNat']; exact Nat.mod_eq_of_lt hy
                rw [this]
              show Rep _ _ _ (Value.int .u8 (y : Int)) (.int .u8 ((byteOf (.int .u8 (y : Int))).toNat : Int))
              rw [e3]
              exact .int ⟨by show (0 : Int) ≤ _; omega, by show _ ≤ (255 : Int); omega⟩
            · simp at hi
      inj := fun i j b m m' hi hj => by
        have h1 : i = 0 := by
          by_cases c : i = 0
          · exact c
          · rw [if_neg c] at hi; cases hi
        have h2 : j = 0 := by
          by_cases c : j = 0
          · exact c
          · rw [if_neg c] at hj; cases hj
        rw [h1, h2]
      notim := fun _ _ _ _ hb => by cases hb.1
      fresh := fun i b m hi => by
        by_cases c : i = 0
        · rw [if_pos c] at hi
          simp only [Option.some.injEq, Prod.mk.injEq] at hi
          omega
        · rw [if_neg c] at hi; cases hi
      rep := .row (x := 0) (m := m) (o := 0) (e := 5) (if_pos rfl) (by omega) (by omega) h1 h2 (by
        have := new_shape w.drew.drew cs 5
        show (w.drew.drew.alloc (.cells cs 5)).shape? w.drew.drew.heap.size = _
        rw [this]
        show some (5, cs.size) = some (5, (0 + cs.size + 0) * 1)
        rw [Nat.zero_add, Nat.add_zero, Nat.mul_one]) }
  · exact hrun.elim
end Go.Proofs.Ytcdflgfhkohldaa
namespace Go.Proofs.Ytcdflgfhkohldaa
open Go Go.Eng Go.Rw Go.Lk Go.Proofs
open Go.Bk hiding take_step drop_step set_mid
set_option linter.unusedVariables false
noncomputable def mkEnv (T : Tab) : Env := mkE Try.prog tyC T
def T0 : Tab := []
theorem T0_ok : TabOk Try.prog T0 := trivial
def smallS : Eng.Spec := { ro := true, own := [], run := fun args _ k => match args with
  | [.int .u64 n] => inK .u64 n ∧ ∀ (ys : List UInt8) (q : Nat), ys = smallL n.toNat → ys.length = q → q ≤ 10 → k (.row 0 0 0 q) [] [.row 0 ys]
  | _ => False }
def smallLoops (n : Int) : List Nat → Nat → Option LoopAnn := fun _ r => match r with
  | 2 => some { V := Nat × Nat × List UInt8, st := fun v => ⟨mk 19 [(0, .int .u64 v.1), (3, .row 0 7777 0 v.2.1)], [], [(7777, .row 0 v.2.2)]⟩,
                I := fun v => v.2.2.length = v.2.1 ∧ v.2.1 < 10 ∧ v.1 < 2 ^ (64 - 7 * v.2.1) ∧ v.2.2 ++ smallF (10 - v.2.1) v.1 = smallL n.toNat, μ := fun v => 10 - v.2.1, boxes := [(3, 7777, 0)] }
  | _ => none
def readS : Eng.Spec := { ro := true, own := [], run := fun args _ k => match args with
  | [.sl 0 xs] => xs.length ≤ 1000000 ∧ ∀ (a b c : Int), a = (readG 0 0 xs).1 → b = (readG 0 0 xs).2.1 → c = (readG 0 0 xs).2.2 → inK .u64 a → (0 ≤ b ∧ b ≤ 10) → (c = 0 ∨ c = 8) → k (.tup [.int .u64 a, .int .i64 b, .int .i64 c]) [] []
  | _ => False }
def readLoops (xs : List UInt8) : List Nat → Nat → Option LoopAnn := fun _ r => match r with
  | 3 => some { V := Nat × Nat, st := fun v => ⟨mk 41 [(5, .int .u64 v.2), (8, .sl 0 xs), (9, .int .i64 xs.length), (10, .int .i64 v.1)], [], []⟩,
                I := fun v => v.1 ≤ xs.length ∧ v.1 ≤ 9 ∧ v.2 < 128 ^ v.1 ∧ readG v.1 v.2 (xs.drop v.1) = readG 0 0 xs, μ := fun v => xs.length - v.1 }
  | _ => none
def rsmallLoops (n : Int) : List Nat → Nat → Option LoopAnn := fun _ r => match r with
  | 2 => some { V := Nat × Nat × List UInt8, st := fun v => ⟨mk 20 [(0, .int .u64 v.1), (3, .row 0 7777 0 v.2.1)], [], [(7777, .row 0 v.2.2)]⟩,
                I := fun v => v.2.2.length = v.2.1 ∧ v.2.1 < 10 ∧ v.1 < 2 ^ (64 - 7 * v.2.1) ∧ v.2.2 ++ smallF (10 - v.2.1) v.1 = smallL n.toNat, μ := fun v => 10 - v.2.1, boxes := [(3, 7777, 0)] }
  | _ => none
def rreadLoops (xs : List UInt8) : List Nat → Nat → Option LoopAnn := fun _ r => match r with
  | 2 => some { V := Nat, st := fun k => ⟨mk 71 [(0, .sl 0 xs), (5, .int .i64 k)], [], []⟩,
                I := fun k => k ≤ xs.length ∧ k ≤ 10 ∧ hiS xs k, μ := fun k => 10 - k }
  | 8 => some { V := Nat × Int × Int, st := fun v => ⟨mk 71 [(0, .sl 0 xs), (5, .int .i64 v.1), (6, .int .u64 v.2.2), (7, .int .i64 v.2.1)], [], []⟩,
                I := fun v => v.1 < xs.length ∧ v.1 ≤ 9 ∧ okR xs v.1 ∧ (-1 ≤ v.2.1 ∧ v.2.1 ≤ v.1) ∧ v.2.2 = (valL ((xs.take (v.1 + 1)).drop (v.2.1 + 1).toNat) : Int), μ := fun v => (v.2.1 + 1).toNat }
  | _ => none
def equalS : Eng.Spec := { ro := true, own := [], run := fun args _ k => match args with
  | [.sl 0 a, .sl 0 b] => ∀ r : Bool, (r = true ↔ a = b) → k (.bool r) [] []
  | _ => False }
def inS : Eng.Spec := { ro := true, own := [], run := fun args _ k => match args with
  | [.int .i64 n, .int .i64 a, .int .i64 b] => ∀ r : Bool, (r = true ↔ a ≤ n ∧ n ≤ b) → k (.bool r) [] []
  | _ => False }
def sameIS : Eng.Spec := { ro := true, own := [], run := fun args _ k => match args with
  | [.sl 1 a, .sl 1 b] => ∀ r : Bool, (r = true ↔ a = b) → k (.bool r) [] []
  | _ => False }
structure eqI (a b : List Int) (i : Nat) : Prop where
  e : a.take i = b.take i
theorem eqi_step {a b : List Int} {i j : Nat} (h : eqI a b i) (hi : i < a.length) (hm : i < b.length) (hj : j = i + 1) (he : a.getD i 0 = b.getD i 0) : eqI a b j := by
  subst hj
  exact ⟨by rw [take_step a 0 hi, take_step b 0 hm, h.e, he]⟩
def sameILoops (a b : List Int) : List Nat → Nat → Option LoopAnn := fun _ r => match r with
  | 4 => some { V := Nat, st := fun v => ⟨mk 26 [(0, .sl 1 a), (1, .sl 1 b), (5, .int .i64 v)], [], []⟩, I := fun v => v ≤ a.length ∧ a.length = b.length ∧ eqI a b v, μ := fun v => a.length - v }
  | _ => none
def putN : Eng.Spec := { ro := true, own := [true], lend := fun j => Nat.beq j 0, run := fun args B k => match args, B with
  | [.nilsl, .sl 1 l], [] => l.length ≤ 1000000 ∧ ∀ (ys : List UInt8) (n : Nat), ys = sms l → ys.length = n → k (.row 0 0 0 n) [] [.row 0 ys]
  | _, _ => False }
def putB : Eng.Spec := { ro := true, own := [true], lend := fun j => Nat.beq j 0, run := fun args B k => match args, B with
  | [.row 0 900 0 q, .sl 1 l], [.row 0 xs] => (q = xs.length ∧ q ≤ 1000000 ∧ l.length ≤ 1000000) ∧ ∀ (ys : List UInt8) (n : Nat), ys = xs ++ sms l → ys.length = n → k (.row 0 1 0 n) [none] [.row 0 ys]
  | _, _ => False }
def putX : Eng.Spec := { ro := true, own := [true], lend := fun j => Nat.beq j 0, run := fun args B k => match args, B with
  | [.nilsl, .sl 1 l], [] => l.length ≤ 1000000 ∧ ∀ (ys : List UInt8) (n : Nat), ys = sms l → ys.length = n → k (.row 0 0 0 n) [] [.row 0 ys]
  | [.row 0 900 0 q, .sl 1 l], [.row 0 xs] => (q = xs.length ∧ q ≤ 1000000 ∧ l.length ≤ 1000000) ∧ ∀ (ys : List UInt8) (n : Nat), ys = xs ++ sms l → ys.length = n → k (.row 0 1 0 n) [none] [.row 0 ys]
  | _, _ => False }
theorem put_up {f : FuncId} (h1 : Holds Try.prog f putN) (h2 : Holds Try.prog f putB) : Holds Try.prog f putX := h1.orB h2 rfl rfl rfl fun args B k h => by
  unfold putX at h
  dsimp only at h
  split at h
  · exact .inl h
  · exact .inr h
  · exact h.elim
def putNLoops (l : List Int) : List Nat → Nat → Option LoopAnn := fun _ r => match r with
  | 2 => some { V := Nat × Nat × List UInt8, st := fun v => ⟨mk 20 [(0, .row 0 7777 0 v.2.1), (7, .sl 1 l), (8, .int .i64 l.length), (9, .int .i64 v.1)], [], [(7777, .row 0 v.2.2)]⟩, I := fun v => v.1 ≤ l.length ∧ l.length ≤ 1000000 ∧ v.2.2.length = v.2.1 ∧ v.2.1 ≤ 10 * v.1 ∧ v.2.2 = sms (l.take v.1), μ := fun v => l.length - v.1, boxes := [(0, 7777, 0)] }
  | _ => none
def putBLoops (q : Nat) (l : List Int) (xs : List UInt8) : List Nat → Nat → Option LoopAnn := fun _ r => match r with
  | 2 => some { V := Nat × Nat × List UInt8, st := fun v => ⟨mk 20 [(0, .row 0 900 0 v.2.1), (7, .sl 1 l), (8, .int .i64 l.length), (9, .int .i64 v.1)], [], [(900, .row 0 v.2.2)]⟩, I := fun v => v.1 ≤ l.length ∧ (q = xs.length ∧ q ≤ 1000000 ∧ l.length ≤ 1000000) ∧ v.2.2.length = v.2.1 ∧ v.2.1 ≤ 1000000 + 10 * v.1 ∧ v.2.2 = xs ++ sms (l.take v.1), μ := fun v => l.length - v.1 }
  | _ => none
def smsS : Eng.Spec := { ro := true, own := [], run := fun args _ k => match args with
  | [.sl 1 l] => l.length ≤ 1000000 ∧ ∀ (ys : List UInt8) (n : Nat), ys = sms l → ys.length = n → k (.row 0 0 0 n) [] [.row 0 ys]
  | _ => False }
def smsLoops (l : List Int) : List Nat → Nat → Option LoopAnn := fun _ r => match r with
  | 3 => some { V := Nat × Nat × List UInt8, st := fun v => ⟨mk 20 [(0, .sl 1 l), (3, .row 0 7777 0 v.2.1), (4, .int .i64 v.1)], [], [(7777, .row 0 v.2.2)]⟩, I := fun v => v.1 ≤ l.length ∧ l.length ≤ 1000000 ∧ v.2.2.length = v.2.1 ∧ v.2.1 ≤ 10 * v.1 ∧ v.2.2 = sms (l.take v.1), μ := fun v => l.length - v.1, boxes := [(3, 7777, 0)] }
  | _ => none
def putF (n w : Int) : List UInt8 := if putOk n w = true then putL n.toNat w.toNat else []
def putE (n w : Int) : Int := if putOk n w = true then 0 else 2
def put0S : Eng.Spec := { ro := true, own := [], run := fun args _ k => match args with
  | [.int .u64 n, .int .i64 w] => inK .u64 n ∧ inK .i64 w ∧ (putOk n w = true → ∀ (ys : List UInt8) (q : Nat), ys = putL n.toNat w.toNat → (q : Int) = w → k (.tup [.row 0 0 0 q, .int .i64 0]) [] [.row 0 ys]) ∧ (putOk n w = false → k (.tup [.nilsl, .int .i64 2]) [] [])
  | _ => False }
def put8S : Eng.Spec := { ro := true, own := [], run := fun args _ k => match args with
  | [.int .u64 n, .int .i64 w] => inK .u64 n ∧ inK .i64 w ∧ ∀ (ys : List UInt8) (q : Nat) (e : Int), ys = putF n w → ys.length = q → e = putE n w → (e = 0 ∨ e = 2) → k (.tup [.row 0 0 0 q, .int .i64 e]) [] [.row 0 ys]
  | _ => False }
theorem put8_up {f : FuncId} (h : Holds Try.prog f put0S) : Holds Try.prog f put8S := h.nl2 0 rfl rfl rfl fun args k h => by
  unfold put8S at h
  dsimp only at h
  split at h
  · obtain ⟨h1, h2, h3⟩ := h
    refine ⟨h1, h2, fun hp ys q hy hq => h3 ys q 0 (by unfold putF; rw [if_pos hp]; exact hy) (by rw [hy, putL_len]; omega) (by unfold putE; rw [if_pos hp]) (.inl rfl), fun hp => h3 [] 0 2 (by unfold putF; rw [if_neg (by rw [hp]; decide)]) rfl (by unfold putE; rw [if_neg (by rw [hp]; decide)]) (.inr rfl)⟩
  · exact h.elim
def putLoops (n w : Int) : List Nat → Nat → Option LoopAnn := fun _ r => match r with
  | 5 => some { V := Nat × List UInt8, st := fun v => ⟨mk 42 [(0, .int .u64 n), (6, .row 0 4001 0 w.toNat), (28, .int .i64 w), (29, .int .i64 v.1)], [], [(4001, .row 0 v.2)]⟩,
                I := fun v => v.1 ≤ w.toNat ∧ v.2 = putL n.toNat v.1 ++ List.replicate (w.toNat - v.1) (0 : UInt8) ∧ v.2.length = w.toNat, μ := fun v => w.toNat - v.1 }
  | _ => none
def rputLoops (n w : Int) : List Nat → Nat → Option LoopAnn := fun _ r => match r with
  | 5 => some { V := Nat × List UInt8 × Int, st := fun v => ⟨mk 30 [(0, .int .u64 v.2.2), (1, .int .i64 w), (6, .row 0 7777 0 v.1), (7, .int .i64 v.1)], [], [(7777, .row 0 v.2.1)]⟩,
                I := fun v => v.1 ≤ w.toNat ∧ v.2.1 = putL n.toNat v.1 ∧ v.2.1.length = v.1 ∧ v.2.2 = ((n.toNat / 256 ^ v.1 : Nat) : Int) ∧ (0 ≤ v.2.2 ∧ v.2.2 ≤ n), μ := fun v => w.toNat - v.1, boxes := [(6, 7777, 0)] }
  | _ => none
def getV (xs : List UInt8) : Int := if getOk xs = true then (getL xs : Int) else 0
def getE (xs : List UInt8) : Int := if getOk xs = true then 0 else 8
def getS : Eng.Spec := { ro := true, own := [], run := fun args _ k => match args with
  | [.sl 0 xs] => ∀ a e : Int, a = getV xs → e = getE xs → inK .u64 a → (e = 0 ∨ e = 8) → k (.tup [.int .u64 a, .int .i64 e]) [] []
  | _ => False }
def getLoops (xs : List UInt8) : List Nat → Nat → Option LoopAnn := fun _ r => match r with
  | 4 => some { V := Nat × Int, st := fun v => ⟨mk 30 [(2, .int .u64 v.2), (14, .sl 0 xs), (15, .int .i64 xs.length), (16, .int .i64 v.1)], [], []⟩,
                I := fun v => v.1 ≤ xs.length ∧ xs.length ≤ 8 ∧ v.2 = (getL (xs.take v.1) : Int), μ := fun v => xs.length - v.1 }
  | _ => none
def rgetLoops (xs : List UInt8) : List Nat → Nat → Option LoopAnn := fun _ r => match r with
  | 5 => some { V := Int × Int, st := fun v => ⟨mk 30 [(0, .sl 0 xs), (4, .int .u64 v.2), (5, .int .i64 v.1)], [], []⟩,
                I := fun v => (-1 ≤ v.1 ∧ v.1 < xs.length) ∧ (1 ≤ xs.length ∧ xs.length ≤ 8) ∧ v.2 = (getL (xs.drop (v.1 + 1).toNat) : Int), μ := fun v => (v.1 + 1).toNat }
  | _ => none
def clone0S : Eng.Spec := { ro := true, own := [], run := fun args _ k => match args with
  | [.sl 0 xs] => xs.length ≤ 1000000 ∧ (xs = [] → k .nilsl [] []) ∧ k (.row 0 0 0 xs.length) [] [.row 0 xs]
  | _ => False }
def cloneS : Eng.Spec := { ro := true, own := [], run := fun args _ k => match args with
  | [.sl 0 xs] => xs.length ≤ 1000000 ∧ k (.row 0 0 0 xs.length) [] [.row 0 xs]
  | _ => False }
def checkS : Eng.Spec := { ro := true, own := [], run := fun args _ k => match args with
  | [.agg [.sl 0 d]] => ∀ e : Int, e = chkE d → k (.int .i64 e) [] []
  | _ => False }
def manyS : Eng.Spec := { ro := true, own := [], run := fun args _ k => match args with
  | [.agg [.sl 0 d]] => ∀ e m : Int, e = chkE d → m = (if dOk d.length then ((d.length / 64 : Nat) : Int) else 0) → k (.tup [.int .i64 m, .int .i64 e]) [] []
  | _ => False }
def rmanyS : Eng.Spec := { ro := true, own := [], run := fun args _ k => match args with
  | [.agg [.sl 0 d]] => ∀ m : Int, m = ((d.length / 64 : Nat) : Int) → k (.int .i64 m) [] []
  | _ => False }
def askedS : Eng.Spec := { ro := true, own := [], run := fun args _ k => match args with
  | [.agg [.sl 0 d], .int .i64 n] => ∀ e : Int, e = askE d n → k (.int .i64 e) [] []
  | _ => False }
def atS : Eng.Spec := { ro := false, own := [], run := fun args _ k => match args with
  | [.agg [.sl 0 d], .int .i64 n] => (0 ≤ n ∧ 64 * n + 64 ≤ d.length ∧ d.length ≤ 1000000) ∧ k (.sl 0 (blk d n)) [] []
  | _ => False }
def atB : Eng.Spec := { ro := true, own := [false], run := fun args B k => match args, B with
  | [.agg [.row 0 0 0 q], .int .i64 n], [.row 0 xs] => (q = xs.length ∧ 0 ≤ n ∧ 64 * n + 64 ≤ xs.length ∧ xs.length ≤ 1000000) ∧ ∀ o : Nat, o = 64 * n.toNat → k (.row 0 0 o 64) [some (.row 0 xs)] []
  | _, _ => False }
def twinS : Eng.Spec := { ro := true, own := [], run := fun args _ k => match args with
  | [.agg [.sl 0 d]] => d.length ≤ 1000000 ∧ ∀ (ys : List UInt8) (n : Nat), ys = d → ys.length = n → k (.agg [.row 0 0 0 n]) [] [.row 0 ys]
  | _ => False }
def newE (n : Int) : Int := if 1 ≤ n ∧ n ≤ 64 then 0 else 180
def newO (n : Int) : List UInt8 := if 1 ≤ n ∧ n ≤ 64 then List.replicate (64 * n.toNat) 0 else []
def newS : Eng.Spec := { ro := true, own := [], run := fun args _ k => match args with
  | [.int .i64 n] => (newE n ≠ 0 → k (.tup [.agg [.nilsl], .int .i64 180]) [] []) ∧ (newE n = 0 → ∀ (ys : List UInt8) (q : Nat), ys = newO n → ys.length = q → k (.tup [.agg [.row 0 0 0 q], .int .i64 0]) [] [.row 0 ys])
  | _ => False }
def blockS : Eng.Spec := { ro := true, own := [], run := fun args _ k => match args with
  | [.agg [.sl 0 d], .int .i64 n] => (0 ≤ n ∧ 64 * n + 64 ≤ d.length ∧ d.length ≤ 1000000) ∧ ∀ (ys : List UInt8) (q : Nat), ys = blk d n → ys.length = q → k (.row 0 0 0 q) [] [.row 0 ys]
  | _ => False }
def N2 : Tab := [(64, manyS)]
def rdD : Eng.Spec := { ro := true, own := [], run := fun args _ k => match args with
  | [.agg [.sl 0 d], .int .i64 n] => d.length ≤ 1000000 ∧ ∀ (e : Int) (ys : List UInt8) (q : Nat), e = askE d n → ys = rdO d n → ys.length = q → k (.tup [.row 0 0 0 q, .int .i64 e]) [] [.row 0 ys]
  | _ => False }
def rdS : Eng.Spec := { ro := true, own := [], run := fun args _ k => match args with
  | [.agg [.sl 0 d], .int .i64 n] => d.length ≤ 1000000 ∧ (∀ e : Int, e = askE d n → e ≠ 0 → k (.tup [.nilsl, .int .i64 e]) [] []) ∧ (askE d n = 0 → ∀ (ys : List UInt8) (q : Nat), ys = rdO d n → ys.length = q → k (.tup [.row 0 0 0 q, .int .i64 0]) [] [.row 0 ys])
  | _ => False }
theorem rd_up {f : FuncId} (hf : Holds Try.prog f rdS) : Holds Try.prog f rdD := hf.nlAt 0 0 rfl rfl rfl fun args k h => by
  unfold rdD at h
  dsimp only at h
  split at h
  · refine ⟨h.1, fun e he hz => h.2 e [] 0 he (by unfold rdO; rw [if_neg (by rw [← he]; exact hz)]) rfl, fun hz ys n hy hn => h.2 0 ys n hz.symm hy hn⟩
  · exact h.elim
def N3 : Tab := [(55, askedS), (56, cloneS), (57, atS), (68, checkS), (48, rmanyS), (71, blockS)]
def M1 : Tab := [(34, smallS), (60, inS), (75, readS)]
def M1r : Tab := [(38, smallS), (72, readS), (63, inS)]
def doS : Eng.Spec := { ro := true, own := [], run := fun args _ k => match args with
  | [.agg [.sl 0 d], .sl 9 l, .int .i64 w, .int .i64 t] => (d.length ≤ 1000000 ∧ l.length ≤ 1000000) ∧ (∀ e : Int, e = doE d l w t → e ≠ 0 → k (.tup [.agg [.nilsl], .int .i64 e]) [] []) ∧ (doE d l w t = 0 → ∀ (ys : List UInt8) (n : Nat), ys = doO d l w t → ys.length = n → k (.tup [.agg [.row 0 0 0 n], .int .i64 0]) [] [.row 0 ys])
  | _ => False }
def doD : Eng.Spec := { ro := true, own := [], run := fun args _ k => match args with
  | [.agg [.sl 0 d], .sl 9 l, .int .i64 w, .int .i64 t] => (d.length ≤ 1000000 ∧ l.length ≤ 1000000) ∧ ∀ (e : Int) (ys : List UInt8) (n : Nat), e = doE d l w t → ys = doO d l w t → ys.length = n → k (.tup [.agg [.row 0 0 0 n], .int .i64 e]) [] [.row 0 ys]
  | _ => False }
theorem do_up {f : FuncId} (hf : Holds Try.prog f doS) : Holds Try.prog f doD := hf.nlAgg 0 0 0 rfl rfl rfl fun args k h => by
  unfold doD at h
  dsimp only at h
  split at h
  · refine ⟨h.1, fun e he hz => h.2 e [] 0 he (by unfold doO; rw [if_neg (by rw [← he]; exact hz)]) rfl, fun hz ys n hy hn => h.2 0 ys n hz.symm hy hn⟩
  · exact h.elim
structure ok0 (d : List UInt8) (l : List Put) (w t : Int) : Prop where
  e : doE d l w t = 0
structure DrE (d : List UInt8) (l : List Put) (i : Nat) (e : Int) : Prop where
  z : e = 0 → dOk d.length ∧ putsE d.length (l.drop i) = putsE d.length l
  n : e ≠ 0 → e = err0 d l
def doLoops (d : List UInt8) (l : List Put) (w t : Int) : List Nat → Nat → Option LoopAnn := fun _ r => match r with
  | 5 => some { V := Nat, st := fun v => ⟨mk 90 [(1, .sl 9 l), (2, .int .i64 w), (3, .int .i64 t), (4, .ptr 1000 0), (8, .ptr 1 0), (9, .ptr 0 0), (19, .sl 9 l), (20, .int .i64 l.length), (21, .int .i64 v)], [], [(0, .cells [.int .i64 0]), (1, .cells [.nilsl]), (1000, .cells [.sl 0 d])]⟩, I := fun v => v ≤ l.length ∧ (d.length ≤ 1000000 ∧ l.length ≤ 1000000) ∧ DrE d l v 0, μ := fun v => l.length - v }
  | 16 => some { V := Nat × List UInt8, st := fun v => ⟨mk 90 [(2, .int .i64 w), (3, .int .i64 t), (8, .ptr 1 0), (9, .ptr 0 0), (58, .sl 9 l), (59, .int .i64 l.length), (60, .int .i64 v.1)], [], [(0, .cells [.int .i64 0]), (1, .cells [.row 0 7777 0 d.length]), (7777, .row 0 v.2)]⟩, I := fun v => v.1 ≤ l.length ∧ (d.length ≤ 1000000 ∧ l.length ≤ 1000000) ∧ ok0 d l w t ∧ v.2.length = d.length ∧ v.2 = doF d l w t v.1, μ := fun v => l.length - v.1, boxes := [(1000800, 7777, 0)] }
  | _ => none
theorem dr_0 {d : List UInt8} {l : List Put} (h : chkE d = 0) : DrE d l 0 0 := ⟨fun _ => ⟨chk_0.1 h, rfl⟩, fun h => absurd rfl h⟩
theorem do_chk {d : List UInt8} {l : List Put} {w t e : Int} (h : e = chkE d) (hz : ¬ e = 0) : e = doE d l w t := by
  have o : ¬ dOk d.length := fun c => hz (h.trans (chk_0.2 c))
  rw [h]
  unfold chkE doE
  rw [if_neg o, if_neg o]
theorem dr_ask {d : List UInt8} {l : List Put} {i : Nat} {n e : Int} (h : DrE d l i 0) (hi : i < l.length) (hn : n = (l.getD (i : Int).toNat (dflt 9)).n) (he : e = askE d n) (hz : ¬ e = 0) : e = err0 d l := by
  obtain ⟨o, hp⟩ := h.z rfl
  rw [Int.toNat_natCast] at hn
  rw [putsE_step hi, ← hn] at hp
  have c : ¬ (0 ≤ n ∧ n < (d.length / 64 : Nat)) := fun c => hz (he.trans (ask_0.2 ⟨o, c⟩))
  rw [if_neg c] at hp
  unfold err0
  rw [if_pos o, ← hp, he]
  unfold askE
  rw [if_pos o, if_neg c]
theorem dr_len {d : List UInt8} {l : List Put} {i : Nat} {n e : Int} (h : DrE d l i 0) (hi : i < l.length) (hn : n = (l.getD (i : Int).toNat (dflt 9)).n) (he : e = askE d n) (hz : e = 0) (hl : ¬ (l.getD i (dflt 9)).data.length = 64) : (8 : Int) = err0 d l := by
  obtain ⟨o, hp⟩ := h.z rfl
  rw [Int.toNat_natCast] at hn
  rw [putsE_step hi, ← hn, if_pos (ask_0.1 (he.symm.trans hz)).2, if_neg hl] at hp
  unfold err0
  rw [if_pos o, ← hp]
theorem dr_step {d : List UInt8} {l : List Put} {i j : Nat} {n e : Int} (h : DrE d l i 0) (hi : i < l.length) (hn : n = (l.getD (i : Int).toNat (dflt 9)).n) (he : e = askE d n) (hz : e = 0) (hl : (l.getD i (dflt 9)).data.length = 64) (hj : j = i + 1) : DrE d l j 0 := by
  subst hj
  obtain ⟨o, hp⟩ := h.z rfl
  rw [Int.toNat_natCast] at hn
  rw [putsE_step hi, ← hn, if_pos (ask_0.1 (he.symm.trans hz)).2, if_pos hl] at hp
  exact ⟨fun _ => ⟨o, hp⟩, fun h => absurd rfl h⟩
theorem dr_end {d : List UInt8} {l : List Put} {i : Nat} (h : DrE d l i 0) (hi : l.length ≤ i) : err0 d l = 0 := by
  obtain ⟨o, hp⟩ := h.z rfl
  rw [List.drop_of_length_le hi] at hp
  unfold err0
  rw [if_pos o, ← hp]; rfl
theorem do_of {d : List UInt8} {l : List Put} {w t e : Int} (h : e = err0 d l) (hz : e ≠ 0) : e = doE d l w t := by
  rw [do_err (by rw [← h]; exact hz)]; exact h
theorem do_2 {d : List UInt8} {l : List Put} {w t : Int} (h : err0 d l = 0) (hc : w < 0 ∨ (l.length : Int) < w ∨ t < 0 ∨ 64 < t) : (2 : Int) = doE d l w t := by
  rw [do_arg h, if_pos hc]
theorem ok_of {d : List UInt8} {l : List Put} {w t : Int} (h : err0 d l = 0) (hc : ¬ (w < 0 ∨ (l.length : Int) < w ∨ t < 0 ∨ 64 < t)) : ok0 d l w t := ⟨by rw [do_arg h, if_neg hc]⟩
theorem bk_room {d : List UInt8} {l : List Put} {w t n : Int} {i : Nat} (h : ok0 d l w t) (hi : i < l.length) (hn : n = (l.getD (i : Int).toNat (dflt 9)).n) : 0 ≤ n ∧ 64 * n + 64 ≤ d.length ∧ (l.getD i (dflt 9)).data.length = 64 := by
  obtain ⟨h1, h2, h3, h4⟩ := doE_0.1 h.e
  rw [Int.toNat_natCast] at hn
  obtain ⟨⟨p1, p2⟩, p3⟩ := h2 _ (get_mem hi)
  rw [← hn] at p1 p2
  have := room h1.2.2 p1 p2
  exact ⟨p1, by omega, p3⟩
theorem bk_z {ys data src z : List UInt8} {n : Int} {o m : Nat} (ho : o = 64 * n.toNat) (hs : src = data.take m) (hm : m ≤ 64) (hd : data.length = 64) (hz : z = List.take o ys ++ List.take (Nat.min src.length 64) src ++ List.drop (o + Nat.min src.length 64) ys) : z = wr ys n data m := by
  have e : src.length = m := by rw [hs, List.length_take]; omega
  have e2 : Nat.min m 64 = m := Nat.min_eq_left hm
  rw [hz, e, e2, ho, hs, List.take_take, Nat.min_self]
  rfl
theorem bk_1 {d ys z : List UInt8} {l : List Put} {w t n : Int} {i o : Nat} (h : ok0 d l w t) (hi : i < l.length) (hl : ys.length = d.length) (hy : ys = doF d l w t i) (hw : (i : Int) < w) (hn : n = (l.getD (i : Int).toNat (dflt 9)).n) (ho : o = 64 * n.toNat)
    (hz : z = List.take o ys ++ List.take (Nat.min (l.getD (i : Int).toNat (dflt 9)).data.length 64) (l.getD (i : Int).toNat (dflt 9)).data ++ List.drop (o + Nat.min (l.getD (i : Int).toNat (dflt 9)).data.length 64) ys) : z = doF d l w t (i + 1) ∧ z.length = d.length := by
  obtain ⟨r1, r2, r3⟩ := bk_room h hi hn
  rw [Int.toNat_natCast] at hn hz
  have e := bk_z ho (m := 64) (List.take_of_length_le (by omega)).symm (by omega) r3 hz
  have f : z = doF d l w t (i + 1) := by
    rw [doF, if_pos hw, ← hy, ← hn]; exact e
  exact ⟨f, by rw [e, wr_len (by omega) (by omega)]; exact hl⟩
theorem bk_2 {d ys z : List UInt8} {l : List Put} {w t n : Int} {i o : Nat} (h : ok0 d l w t) (hi : i < l.length) (hl : ys.length = d.length) (hy : ys = doF d l w t i) (hw : (i : Int) = w) (hn : n = (l.getD (i : Int).toNat (dflt 9)).n) (ho : o = 64 * n.toNat)
    (hz : z = List.take o ys ++ List.take (Nat.min (List.take t.toNat (l.getD (i : Int).toNat (dflt 9)).data).length 64) (List.take t.toNat (l.getD (i : Int).toNat (dflt 9)).data) ++ List.drop (o + Nat.min (List.take t.toNat (l.getD (i : Int).toNat (dflt 9)).data).length 64) ys) : z = doF d l w t (i + 1) ∧ z.length = d.length := by
  obtain ⟨r1, r2, r3⟩ := bk_room h hi hn
  obtain ⟨h1, h2, h3, h4⟩ := doE_0.1 h.e
  rw [Int.toNat_natCast] at hn hz
  have e := bk_z ho (m := t.toNat) rfl (by omega) r3 hz
  have f : z = doF d l w t (i + 1) := by
    rw [doF, if_neg (by omega), if_pos hw, ← hy, ← hn]; exact e
  exact ⟨f, by rw [e, wr_len (by omega) (by omega)]; exact hl⟩
theorem bk_3 {d ys : List UInt8} {l : List Put} {w t : Int} {i : Nat} (hy : ys = doF d l w t i) (h1 : ¬ (i : Int) < w) (h2 : ¬ (i : Int) = w) : ys = doF d l w t (i + 1) := by
  rw [doF, if_neg h1, if_neg h2]; exact hy
theorem bk_end {d ys : List UInt8} {l : List Put} {w t : Int} {i : Nat} (h : ok0 d l w t) (hy : ys = doF d l w t i) (hi : i = l.length) : ys = doO d l w t := by
  unfold doO
  rw [if_pos h.e, hy, hi]
def N1 : Tab := [(54, checkS), (77, equalS), (48, rmanyS), (13, twinS)]
end Go.Proofs.Ytcdflgfhkohldaa
