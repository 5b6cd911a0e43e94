import Derived.Test.YtcdflgfhkohldaaStI
import Derived.Test.YtcdflgfhkohldaaStP
namespace Go.Proofs.Ytcdflgfhkohldaa
open Go Go.Eng Go.Rw Go.Lk Go.Proofs
open Go.Bk hiding take_step drop_step set_mid
open Go.St hiding take_step
set_option linter.unusedVariables false
theorem z_app {α : Type} {z l : List α} {x : α} {i : Nat} (hz : z = List.take i l ++ List.take 1 (List.drop 0 [x])) (hl : l.length = i) : z = l ++ [x] ∧ z.length = i + 1 := by
  have e : z = l ++ [x] := by rw [hz, ← hl, List.take_length]; rfl
  exact ⟨e, by rw [e, List.length_append, hl]; rfl⟩
theorem ks_all {ks : List Int} {q : Nat} (h : ks.length = q) : List.take q (List.drop 0 ks) = ks := by rw [List.drop_zero, ← h, List.take_length]
theorem ks_all' {l : List Plan} {q : Nat} (h : l.length = q) : List.take q (List.drop 0 l) = l := by rw [List.drop_zero, ← h, List.take_length]
theorem pl_app {z l : List Plan} {c o : Int} {ks : List Int} {i q : Nat} (hz : z = List.take i l ++ List.take 1 (List.drop 0 [⟨c, o, List.take q (List.drop 0 ks)⟩])) (hl : l.length = i) (hq : ks.length = q) : z = l ++ [⟨c, o, ks⟩] ∧ z.length = i + 1 := by
  rw [ks_all hq] at hz
  exact z_app hz hl
def oneS : Eng.Spec := { ro := true, own := [false], run := fun args B k => match args, B with
  | [.ptr 0 0, .int .i64 m], [.cells [.sl 0 b, .bool bad, .int .i64 0, .nilsl, .nilsl, .nilsl, .nilsl, .nilsl, .int .i64 0, .int .i64 0, .int .i64 0, .int .i64 0, .int .i64 0, .nilsl]] => (0 ≤ m ∧ m ≤ 9223372036854775807) ∧ b.length ≤ 1000000 ∧ ∀ (v : Int) (r : List UInt8) (bd : Bool), v = oneV m b → r = oneR m b → bd = (bad || oneB m b) → (0 ≤ v ∧ v ≤ m) → r.length ≤ b.length → k (.int .i64 v) [some (.cells [.sl 0 r, .bool bd, .int .i64 0, .nilsl, .nilsl, .nilsl, .nilsl, .nilsl, .int .i64 0, .int .i64 0, .int .i64 0, .int .i64 0, .int .i64 0, .nilsl])] []
  | _, _ => False }
def roneS : Eng.Spec := { ro := true, own := [false], run := fun args B k => match args, B with
  | [.ptr 0 0, .int .i64 m], [.cells [.sl 0 b, .bool bad]] => (0 ≤ m ∧ m ≤ 9223372036854775807) ∧ b.length ≤ 1000000 ∧ ∀ (v : Int) (r : List UInt8) (bd : Bool), v = oneV m b → r = oneR m b → bd = (bad || oneB m b) → (0 ≤ v ∧ v ≤ m) → r.length ≤ b.length → k (.int .i64 v) [some (.cells [.sl 0 r, .bool bd])] []
  | _, _ => False }
def timesS : Eng.Spec := { ro := true, own := [false], run := fun args B k => match args, B with
  | [.ptr 0 0, .int .i64 n], [.cells [.sl 0 b, .bool bad, .int .i64 0, .nilsl, .nilsl, .nilsl, .nilsl, .nilsl, .int .i64 0, .int .i64 0, .int .i64 0, .int .i64 0, .int .i64 0, .nilsl]] => (0 ≤ n ∧ n ≤ 8) ∧ b.length ≤ 1000000 ∧ ∀ (ks : List Int) (q : Nat) (r : List UInt8) (bd : Bool), TIn b bad n.toNat n.toNat bd r ks → ks.length = q → q = n.toNat → r.length ≤ b.length → k (.row 1 1 0 q) [some (.cells [.sl 0 r, .bool bd, .int .i64 0, .nilsl, .nilsl, .nilsl, .nilsl, .nilsl, .int .i64 0, .int .i64 0, .int .i64 0, .int .i64 0, .int .i64 0, .nilsl])] [.row 1 ks]
  | _, _ => False }
def plansS : Eng.Spec := { ro := true, own := [false], run := fun args B k => match args, B with
  | [.ptr 0 0], [.cells [.sl 0 b, .bool false, .int .i64 0, .nilsl, .nilsl, .nilsl, .nilsl, .nilsl, .int .i64 0, .int .i64 0, .int .i64 0, .int .i64 0, .int .i64 0, .nilsl]] => b.length ≤ 1000000 ∧ ∀ (l : List Plan) (q : Nat) (r : List UInt8) (bd : Bool), PIn b (oneV 8 b).toNat bd r l → l.length = q → q ≤ 8 → r.length ≤ b.length → k (.row 10 1 0 q) [some (.cells [.sl 0 r, .bool bd, .int .i64 0, .nilsl, .nilsl, .nilsl, .nilsl, .nilsl, .int .i64 0, .int .i64 0, .int .i64 0, .int .i64 0, .int .i64 0, .nilsl])] [.row 10 l]
  | _, _ => False }
def rplansS : Eng.Spec := { ro := true, own := [false], run := fun args B k => match args, B with
  | [.ptr 0 0], [.cells [.sl 0 b, .bool false]] => b.length ≤ 1000000 ∧ ∀ (l : List Plan) (q : Nat) (r : List UInt8) (bd : Bool), (bd = false → PIn b (oneV 8 b).toNat bd r l) → (bd = true → rdP b = none) → l.length = q → q ≤ 8 → r.length ≤ b.length → k (.row 10 1 0 q) [some (.cells [.sl 0 r, .bool bd])] [.row 10 l]
  | _, _ => False }
def timesLoops (n : Int) (b : List UInt8) (bad : Bool) : List Nat → Nat → Option LoopAnn := fun _ r => match r with
  | 3 => some { V := Nat × Bool × List UInt8 × List Int, st := fun v => ⟨mk 16 [(0, .ptr 0 0), (5, .row 1 7777 0 v.1), (6, .int .i64 n), (7, .int .i64 v.1)], [], [(0, .cells [.sl 0 v.2.2.1, .bool v.2.1, .int .i64 0, .nilsl, .nilsl, .nilsl, .nilsl, .nilsl, .int .i64 0, .int .i64 0, .int .i64 0, .int .i64 0, .int .i64 0, .nilsl]), (7777, .row 1 v.2.2.2)]⟩, I := fun v => v.1 ≤ n.toNat ∧ (0 ≤ n ∧ n ≤ 8) ∧ b.length ≤ 1000000 ∧ v.2.2.1.length ≤ b.length ∧ v.2.2.2.length = v.1 ∧ TIn b bad n.toNat v.1 v.2.1 v.2.2.1 v.2.2.2, μ := fun v => n.toNat - v.1, boxes := [(5, 7777, 1)] }
  | _ => none
/-- A plan half read. -/
structure PA (b : List UInt8) (i : Nat) (c o : Int) (r2 : List UInt8) (b2 : Bool) (l : List Plan) : Prop where
  h : ∃ bad r, PIn b i bad r l ∧ c = oneV 1048576 r ∧ o = oneV 1048576 (oneR 1048576 r) ∧ r2 = oneR 1048576 (oneR 1048576 r) ∧ b2 = ((bad || oneB 1048576 r) || oneB 1048576 (oneR 1048576 r))
theorem pa_step {b r2 r3 r4 : List UInt8} {i : Nat} {b2 b3 b4 : Bool} {l l' : List Plan} {n c o m : Int} {ks : List Int} (h : PA b i c o r2 b2 l) (hn : n = oneV 8 b) (hi : i < n.toNat)
    (hm : m = oneV 8 r2) (hr3 : r3 = oneR 8 r2) (hb3 : b3 = (b2 || oneB 8 r2)) {k : Nat} (ht : TIn r3 b3 m.toNat k b4 r4 ks) (hk : b4 = false → k = m.toNat) (hl : l' = l ++ [⟨c, o, ks⟩]) : PIn b (i + 1) b4 r4 l' := by
  obtain ⟨bad, r, hp, h1, h2, h3, h4⟩ := h.h
  exact pin_step hp hn hi h1 rfl rfl h2 h3 h4 hm hr3 hb3 ht hk hl
theorem pa_mk {b r r1 r2 : List UInt8} {i : Nat} {bad b1 b2 : Bool} {l : List Plan} {c o : Int} (hp : PIn b i bad r l) (h1 : c = oneV 1048576 r) (h2 : r1 = oneR 1048576 r) (h3 : b1 = (bad || oneB 1048576 r))
    (h4 : o = oneV 1048576 r1) (h5 : r2 = oneR 1048576 r1) (h6 : b2 = (b1 || oneB 1048576 r1)) : PA b i c o r2 b2 l := by
  subst h2; subst h3
  exact ⟨_, _, hp, h1, h4, h5, h6⟩
def plansLoops (b : List UInt8) : List Nat → Nat → Option LoopAnn := fun _ r => match r with
  | 2 => some { V := Nat × Bool × List UInt8 × List Plan, st := fun v => ⟨mk 34 [(0, .ptr 0 0), (2, .row 10 7777 0 v.1), (7, .int .i64 (oneV 8 b)), (8, .int .i64 v.1)], [], [(0, .cells [.sl 0 v.2.2.1, .bool v.2.1, .int .i64 0, .nilsl, .nilsl, .nilsl, .nilsl, .nilsl, .int .i64 0, .int .i64 0, .int .i64 0, .int .i64 0, .int .i64 0, .nilsl]), (7777, .row 10 v.2.2.2)]⟩, I := fun v => v.1 ≤ (oneV 8 b).toNat ∧ (0 ≤ oneV 8 b ∧ oneV 8 b ≤ 8) ∧ b.length ≤ 1000000 ∧ v.2.2.1.length ≤ b.length ∧ v.2.2.2.length = v.1 ∧ PIn b v.1 v.2.1 v.2.2.1 v.2.2.2, μ := fun v => (oneV 8 b).toNat - v.1, boxes := [(2, 7777, 10)], key := fun v => v.1 }
  | _ => none
def plansCuts (b : List UInt8) : List Nat → Nat → Option CutAnn := fun s r => match r, s with
  | 4, i :: _ => some { V := Bool × List UInt8 × List Plan × Int × Int, st := fun v => ⟨mk 34 [(0, .ptr 0 0), (2, .row 10 7777 0 i), (3, .ptr 4009 0), (7, .int .i64 (oneV 8 b)), (8, .int .i64 i)], [], [(0, .cells [.sl 0 v.2.1, .bool v.1, .int .i64 0, .nilsl, .nilsl, .nilsl, .nilsl, .nilsl, .int .i64 0, .int .i64 0, .int .i64 0, .int .i64 0, .int .i64 0, .nilsl]), (7777, .row 10 v.2.2.1), (4009, .cells [.int .i64 v.2.2.2.1, .int .i64 v.2.2.2.2, .nilsl])]⟩, I := fun v => i < (oneV 8 b).toNat ∧ (0 ≤ oneV 8 b ∧ oneV 8 b ≤ 8) ∧ b.length ≤ 1000000 ∧ v.2.1.length ≤ b.length ∧ v.2.2.1.length = i ∧ (0 ≤ v.2.2.2.1 ∧ v.2.2.2.1 ≤ 1048576) ∧ (0 ≤ v.2.2.2.2 ∧ v.2.2.2.2 ≤ 1048576) ∧ PA b i v.2.2.2.1 v.2.2.2.2 v.2.1 v.1 v.2.2.1 }
  | _, _ => none
/-- A plan all but read: numbers ahead of it, and so many splits. -/
structure PB (b : List UInt8) (i : Nat) (c o m : Int) (k : Nat) (bd : Bool) (r : List UInt8) (l : List Plan) (ks : List Int) : Prop where
  h : ∃ r2 b2, PA b i c o r2 b2 l ∧ m = oneV 8 r2 ∧ TIn (oneR 8 r2) (b2 || oneB 8 r2) m.toNat k bd r ks
theorem pb_0 {b r r1 r2 r3 : List UInt8} {i : Nat} {bad b1 b2 b3 : Bool} {l : List Plan} {c o m : Int} (hp : PIn b i bad r l) (h1 : c = oneV 1048576 r) (h2 : r1 = oneR 1048576 r) (h3 : b1 = (bad || oneB 1048576 r))
    (h4 : o = oneV 1048576 r1) (h5 : r2 = oneR 1048576 r1) (h6 : b2 = (b1 || oneB 1048576 r1)) (h7 : m = oneV 8 r2) (h8 : r3 = oneR 8 r2) (h9 : b3 = (b2 || oneB 8 r2)) : PB b i c o m 0 b3 r3 l [] := by
  subst h2; subst h3; subst h5; subst h6; subst h8; subst h9
  exact ⟨_, _, ⟨_, _, hp, h1, h4, rfl, rfl⟩, h7, tin_0 _ _ _⟩
theorem pb_step {b r r' : List UInt8} {i k : Nat} {bd b' : Bool} {l : List Plan} {c o m v : Int} {ks ks' : List Int} (h : PB b i c o m k bd r l ks) (hk : k < m.toNat) (hv : v = oneV 1048576 r) (hr : r' = oneR 1048576 r) (hb : b' = (bd || oneB 1048576 r)) (hs : ks' = ks ++ [v]) : PB b i c o m (k + 1) b' r' l ks' := by
  obtain ⟨r2, b2, h1, h2, h3⟩ := h.h
  exact ⟨r2, b2, h1, h2, tin_step h3 hk hv hr hb hs⟩
theorem pb_end {b r : List UInt8} {i k : Nat} {bd : Bool} {l l' : List Plan} {c o m : Int} {ks : List Int} (h : PB b i c o m k bd r l ks) (hi : i < (oneV 8 b).toNat) (hk : bd = false → k = m.toNat) (hl : l' = l ++ [⟨c, o, ks⟩]) : PIn b (i + 1) bd r l' := by
  obtain ⟨r2, b2, h1, h2, h3⟩ := h.h
  exact pa_step h1 rfl hi h2 rfl rfl h3 hk hl
def rplansLoops (b : List UInt8) : List Nat → Nat → Option LoopAnn := fun s r => match r, s with
  | 4, _ => some { V := Nat × Bool × List UInt8 × List Plan, st := fun v => ⟨mk 55 [(0, .ptr 0 0), (3, .row 10 7777 0 v.1), (4, .int .i64 (oneV 8 b)), (5, .int .i64 v.1)], [], [(0, .cells [.sl 0 v.2.2.1, .bool v.2.1]), (7777, .row 10 v.2.2.2)]⟩, I := fun v => v.1 ≤ (oneV 8 b).toNat ∧ (0 ≤ oneV 8 b ∧ oneV 8 b ≤ 8) ∧ b.length ≤ 1000000 ∧ v.2.2.1.length ≤ b.length ∧ v.2.2.2.length = v.1 ∧ PIn b v.1 v.2.1 v.2.2.1 v.2.2.2, μ := fun v => (oneV 8 b).toNat - v.1, boxes := [(3, 7777, 10)], key := fun v => v.1 }
  | 10, i :: _ => some { V := Nat × Bool × List UInt8 × List Plan × Int × Int × Int × List Int, st := fun v => ⟨mk 55 [(0, .ptr 0 0), (3, .row 10 7777 0 i), (4, .int .i64 (oneV 8 b)), (5, .int .i64 i), (6, .ptr 7003 0), (7, .int .i64 v.2.2.2.2.2.2.1), (8, .int .i64 v.1)], [], [(0, .cells [.sl 0 v.2.2.1, .bool v.2.1]), (7777, .row 10 v.2.2.2.1), (7778, .row 1 v.2.2.2.2.2.2.2), (7003, .cells [.int .i64 v.2.2.2.2.1, .int .i64 v.2.2.2.2.2.1, .row 1 7778 0 v.1])]⟩, I := fun v => v.1 ≤ v.2.2.2.2.2.2.1.toNat ∧ (0 ≤ v.2.2.2.2.2.2.1 ∧ v.2.2.2.2.2.2.1 ≤ 8) ∧ i < (oneV 8 b).toNat ∧ (0 ≤ oneV 8 b ∧ oneV 8 b ≤ 8) ∧ b.length ≤ 1000000 ∧ v.2.2.1.length ≤ b.length ∧ v.2.2.2.1.length = i ∧ (0 ≤ v.2.2.2.2.1 ∧ v.2.2.2.2.1 ≤ 1048576) ∧ (0 ≤ v.2.2.2.2.2.1 ∧ v.2.2.2.2.2.1 ≤ 1048576) ∧ v.2.2.2.2.2.2.2.length = v.1 ∧ PB b i v.2.2.2.2.1 v.2.2.2.2.2.1 v.2.2.2.2.2.2.1 v.1 v.2.1 v.2.2.1 v.2.2.2.1 v.2.2.2.2.2.2.2, μ := fun v => v.2.2.2.2.2.2.1.toNat - v.1, boxes := [(1000602, 7778, 1)] }
  | _, _ => none
def K1 : Tab := [(83, oneS)]
def K2 : Tab := [(83, oneS), (84, timesS)]
def K2r : Tab := [(82, roneS)]
end Go.Proofs.Ytcdflgfhkohldaa

