import Derived.Test.YtcdflgfhkohldaaStI
import Derived.Test.YtcdflgfhkohldaaStP
namespace Go.Proofs.Ytcdflgfhkohldaa
open Go Go.Eng Go.Rw Go.Lk Go.Proofs
open Go.Bk hiding take_step drop_step set_mid
open Go.St hiding take_step
set_option linter.unusedVariables false
theorem z_app {α : Type} {z l : List α} {x : α} {i : Nat} (hz : z = List.take i l ++ List.take 1 (List.drop 0 [x])) (hl : l.length = i) : z = l ++ [x] ∧ z.length = i + 1 := by
  have e : z = l ++ [x] := by rw [hz, ← hl, List.take_length]; rfl
  exact ⟨e, by rw [e, List.length_append, hl]; rfl⟩
theorem ks_all {ks : List Int} {q : Nat} (h : ks.length = q) : List.take q (List.drop 0 ks) = ks := by rw [List.drop_zero, ← h, List.take_length]
theorem ks_all' {l : List Plan} {q : Nat} (h : l.length = q) : List.take q (List.drop 0 l) = l := by rw [List.drop_zero, ← h, List.take_length]
theorem pl_app {z l : List Plan} {c o : Int} {ks : List Int} {i q : Nat} (hz : z = List.take i l ++ List.take 1 (List.drop 0 [⟨c, o, List.take q (List.drop 0 ks)⟩])) (hl : l.length = i) (hq : ks.length = q) : z = l ++ [⟨c, o, ks⟩] ∧ z.length = i + 1 := by
  rw [ks_all hq] at hz
  exact z_app hz hl
def oneS : Eng.Spec := { ro := true, own := [false], run := fun args B k => match args, B with
  | [.ptr 0 0, .int .i64 m], [.cells [.sl 0 b, .bool bad, .int .i64 0, .nilsl, .nilsl, .nilsl, .nilsl, .nilsl, .int .i64 0, .int .i64 0, .int .i64 0, .int .i64 0, .int .i64 0, .nilsl]] => (0 ≤ m ∧ m ≤ 9223372036854775807) ∧ b.length ≤ 1000000 ∧ ∀ (v : Int) (r : List UInt8) (bd : Bool), v = oneV m b → r = oneR m b → bd = (bad || oneB m b) → (0 ≤ v ∧ v ≤ m) → r.length ≤ b.length → k (.int .i64 v) [some (.cells [.sl 0 r, .bool bd, .int .i64 0, .nilsl, .nilsl, .nilsl, .nilsl, .nilsl, .int .i64 0, .int .i64 0, .int .i64 0, .int .i64 0, .int .i64 0, .nilsl])] []
  | _, _ => False }
def roneS : Eng.Spec := { ro := true, own := [false], run := fun args B k => match args, B with
  | [.ptr 0 0, .int .i64 m], [.cells [.sl 0 b, .bool bad]] => (0 ≤ m ∧ m ≤ 9223372036854775807) ∧ b.length ≤ 1000000 ∧ ∀ (v : Int) (r : List UInt8) (bd : Bool), v = oneV m b → r = oneR m b → bd = (bad || oneB m b) → (0 ≤ v ∧ v ≤ m) → r.length ≤ b.length → k (.int .i64 v) [some (.cells [.sl 0 r, .bool bd])] []
  | _, _ => False }
def timesS : Eng.Spec := { ro := true, own := [false], run := fun args B k => match args, B with
  | [.ptr 0 0, .int .i64 n], [.cells [.sl 0 b, .bool bad, .int .i64 0, .nilsl, .nilsl, .nilsl, .nilsl, .nilsl, .int .i64 0, .int .i64 0, .int .i64 0, .int .i64 0, .int .i64 0, .nilsl]] => (0 ≤ n ∧ n ≤ 8) ∧ b.length ≤ 1000000 ∧ ∀ (ks : List Int) (q : Nat) (r : List UInt8) (bd : Bool), TIn b bad n.toNat n.toNat bd r ks → ks.length = q → q = n.toNat → r.length ≤ b.length → k (.row 1 1 0 q) [some (.cells [.sl 0 r, .bool bd, .int .i64 0, .nilsl, .nilsl, .nilsl, .nilsl, .nilsl, .int .i64 0, .int .i64 0, .int .i64 0, .int .i64 0, .int .i64 0, .nilsl])] [.row 1 ks]
  | _, _ => False }
def plansS : Eng.Spec := { ro := true, own := [false], run := fun args B k => match args, B with
  | [.ptr 0 0], [.cells [.sl 0 b, .bool false, .int .i64 0, .nilsl, .nilsl, .nilsl, .nilsl, .nilsl, .int .i64 0, .int .i64 0, .int .i64 0, .int .i64 0, .int .i64 0, .nilsl]] => b.length ≤ 1000000 ∧ ∀ (l : List Plan) (q : Nat) (r : List UInt8) (bd : Bool), PIn b (oneV 8 b).toNat bd r l → l.length = q → q ≤ 8 → r.length ≤ b.length → k (.row 10 1 0 q) [some (.cells [.sl 0 r, .bool bd, .int .i64 0, .nilsl, .nilsl, .nilsl, .nilsl, .nilsl, .int .i64 0, .int .i64 0, .int .i64 0, .int .i64 0, .int .i64 0, .nilsl])] [.row 10 l]
  | _, _ => False }
def rplansS : Eng.Spec := { ro := true, own := [false], run := fun args B k => match args, B with
  | [.ptr 0 0], [.cells [.sl 0 b, .bool false]] => b.length ≤ 1000000 ∧ ∀ (l : List Plan) (q : Nat) (r : List UInt8) (bd : Bool), (bd = false → PIn b (oneV 8 b).toNat bd r l) → (bd = true → rdP b = none) → l.length = q → q ≤ 8 → r.length ≤ b.length → k (.row 10 1 0 q) [some (.cells [.sl 0 r, .bool bd])] [.row 10 l]
  | _, _ => False }
def timesLoops (n : Int) (b : List UInt8) (bad : Bool) : List Nat → Nat → Option LoopAnn := fun _ r => match r with
  | 3 => some { V := Nat × Bool × List UInt8 × List Int, st := fun v => ⟨mk 16 [(0, .ptr 0 0), (5, .row 1 7777 0 v.1), (6, .int .i64 n), (7, .int .i64 v.1)], [], [(0, .cells [.sl 0 v.2.2.1, .bool v.2.1, .int .i64 0, .nilsl, .nilsl, .nilsl, .nilsl, .nilsl, .int .i64 0, .int .i64 0, .int .i64 0, .int .i64 0, .int .i64 0, .nilsl]), (7777, .row 1 v.2.2.2)]⟩, I := fun v => v.1 ≤ n.toNat ∧ (0 ≤ n ∧ n ≤ 8) ∧ b.length ≤ 1000000 ∧ v.2.2.1.length ≤ b.length ∧ v.2.2.2.length = v.1 ∧ TIn b bad n.toNat v.1 v.2.1 v.2.2.1 v.2.2.2, μ := fun v => n.toNat - v.1, boxes := [(5, 7777, 1)] }
  | _ => none
structure PA (b : List UInt8) (i : Nat) (c o : Int) (r2 : List UInt8) (b2 : Bool) (l : List Plan) : Prop where
  h : ∃ bad r, PIn b i bad r l ∧ c = oneV 1048576 r ∧ o = oneV 1048576 (oneR 1048576 r) ∧ r2 = oneR 1048576 (oneR 1048576 r) ∧ b2 = ((bad || oneB 1048576 r) || oneB 1048576 (oneR 1048576 r))
theorem pa_step {b r2 r3 r4 : List UInt8} {i : Nat} {b2 b3 b4 : Bool} {l l' : List Plan} {n c o m : Int} {ks : List Int} (h : PA b i c o r2 b2 l) (hn : n = oneV 8 b) (hi : i < n.toNat)
    (hm : m = oneV 8 r2) (hr3 : r3 = oneR 8 r2) (hb3 : b3 = (b2 || oneB 8 r2)) {k : Nat} (ht : TIn r3 b3 m.toNat k b4 r4 ks) (hk : b4 = false → k = m.toNat) (hl : l' = l ++ [⟨c, o, ks⟩]) : PIn b (i + 1) b4 r4 l' := by
  obtain ⟨bad, r, hp, h1, h2, h3, h4⟩ := h.h
  exact pin_step hp hn hi h1 rfl rfl h2 h3 h4 hm hr3 hb3 ht hk hl
theorem pa_mk {b r r1 r2 : List UInt8} {i : Nat} {bad b1 b2 : Bool} {l : List Plan} {c o : Int} (hp : PIn b i bad r l) (h1 : c = oneV 1048576 r) (h2 : r1 = oneR 1048576 r) (h3 : b1 = (bad || oneB 1048576 r))
    (h4 : o = oneV 1048576 r1) (h5 : r2 = oneR 1048576 r1) (h6 : b2 = (b1 || oneB 1048576 r1)) : PA b i c o r2 b2 l := by
  subst h2; subst h3
  exact ⟨_, _, hp, h1, h4, h5, h6⟩
def plansLoops (b : List UInt8) : List Nat → Nat → Option LoopAnn := fun _ r => match r with
  | 2 => some { V := Nat × Bool × List UInt8 × List Plan, st := fun v => ⟨mk 34 [(0, .ptr 0 0), (2, .row 10 7777 0 v.1), (7, .int .i64 (oneV 8 b)), (8, .int .i64 v.1)], [], [(0, .cells [.sl 0 v.2.2.1, .bool v.2.1, .int .i64 0, .nilsl, .nilsl, .nilsl, .nilsl, .nilsl, .int .i64 0, .int .i64 0, .int .i64 0, .int .i64 0, .int .i64 0, .nilsl]), (7777, .row 10 v.2.2.2)]⟩, I := fun v => v.1 ≤ (oneV 8 b).toNat ∧ (0 ≤ oneV 8 b ∧ oneV 8 b ≤ 8) ∧ b.length ≤ 1000000 ∧ v.2.2.1.length ≤ b.length ∧ v.2.2.2.length = v.1 ∧ PIn b v.1 v.2.1 v.2.2.1 v.2.2.2, μ := fun v => (oneV 8 b).toNat - v.1, boxes := [(2, 7777, 10)], key := fun v => v.1 }
  | _ => none
def plansCuts (b : List UInt8) : List Nat → Nat → Option CutAnn := fun s r => match r, s with
  | 4, i :: _ => some { V := Bool × List UInt8 × List Plan × Int × Int, st := fun v => ⟨mk 34 [(0, .ptr 0 0), (2, .row 10 7777 0 i), (3, .ptr 4009 0), (7, .int .i64 (oneV 8 b)), (8, .int .i64 i)], [], [(0, .cells [.sl 0 v.2.1, .bool v.1, .int .i64 0, .nilsl, .nilsl, .nilsl, .nilsl, .nilsl, .int .i64 0, .int .i64 0, .int .i64 0, .int .i64 0, .int .i64 0, .nilsl]), (7777, .row 10 v.2.2.1), (4009, .cells [.int .i64 v.2.2.2.1, .int .i64 v.2.2.2.2, .nilsl])]⟩, I := fun v => i < (oneV 8 b).toNat ∧ (0 ≤ oneV 8 b ∧ oneV 8 b ≤ 8) ∧ b.length ≤ 1000000 ∧ v.2.1.length ≤ b.length ∧ v.2.2.1.length = i ∧ (0 ≤ v.2.2.2.1 ∧ v.2.2.2.1 ≤ 1048576) ∧ (0 ≤ v.2.2.2.2 ∧ v.2.2.2.2 ≤ 1048576) ∧ PA b i v.2.2.2.1 v.2.2.2.2 v.2.1 v.1 v.2.2.1 }
  | _, _ => none
structure PB (b : List UInt8) (i : Nat) (c o m : Int) (k : Nat) (bd : Bool) (r : List UInt8) (l : List Plan) (ks : List Int) : Prop where
  h : ∃ r2 b2, PA b i c o r2 b2 l ∧ m = oneV 8 r2 ∧ TIn (oneR 8 r2) (b2 || oneB 8 r2) m.toNat k bd r ks
theorem pb_0 {b r r1 r2 r3 : List UInt8} {i : Nat} {bad b1 b2 b3 : Bool} {l : List Plan} {c o m : Int} (hp : PIn b i bad r l) (h1 : c = oneV 1048576 r) (h2 : r1 = oneR 1048576 r) (h3 : b1 = (bad || oneB 1048576 r))
    (h4 : o = oneV 1048576 r1) (h5 : r2 = oneR 1048576 r1) (h6 : b2 = (b1 || oneB 1048576 r1)) (h7 : m = oneV 8 r2) (h8 : r3 = oneR 8 r2) (h9 : b3 = (b2 || oneB 8 r2)) : PB b i c o m 0 b3 r3 l [] := by
  subst h2; subst h3; subst h5; subst h6; subst h8; subst h9
  exact ⟨_, _, ⟨_, _, hp, h1, h4, rfl, rfl⟩, h7, tin_0 _ _ _⟩
theorem pb_step {b r r' : List UInt8} {i k : Nat} {bd b' : Bool} {l : List Plan} {c o m v : Int} {ks ks' : List Int} (h : PB b i c o m k bd r l ks) (hk : k < m.toNat) (hv : v = oneV 1048576 r) (hr : r' = oneR 1048576 r) (hb : b' = (bd || oneB 1048576 r)) (hs : ks' = ks ++ [v]) : PB b i c o m (k + 1) b' r' l ks' := by
  obtain ⟨r2, b2, h1, h2, h3⟩ := h.h
  exact ⟨r2, b2, h1, h2, tin_step h3 hk hv hr hb hs⟩
theorem pb_end {b r : List UInt8} {i k : Nat} {bd : Bool} {l l' : List Plan} {c o m : Int} {ks : List Int} (h : PB b i c o m k bd r l ks) (hi : i < (oneV 8 b).toNat) (hk : bd = false → k = m.toNat) (hl : l' = l ++ [⟨c, o, ks⟩]) : PIn b (i + 1) bd r l' := by
  obtain ⟨r2, b2, h1, h2, h3⟩ := h.h
  exact pa_step h1 rfl hi h2 rfl rfl h3 hk hl
def rplansLoops (b : List UInt8) : List Nat → Nat → Option LoopAnn := fun s r => match r, s with
  | 4, _ => some { V := Nat × Bool × List UInt8 × List Plan, st := fun v => ⟨mk 55 [(0, .ptr 0 0), (3, .row 10 7777 0 v.1), (4, .int .i64 (oneV 8 b)), (5, .int .i64 v.1)], [], [(0, .cells [.sl 0 v.2.2.1, .bool v.2.1]), (7777, .row 10 v.2.2.2)]⟩, I := fun v => v.1 ≤ (oneV 8 b).toNat ∧ (0 ≤ oneV 8 b ∧ oneV 8 b ≤ 8) ∧ b.length ≤ 1000000 ∧ v.2.2.1.length ≤ b.length ∧ v.2.2.2.length = v.1 ∧ PIn b v.1 v.2.1 v.2.2.1 v.2.2.2, μ := fun v => (oneV 8 b).toNat - v.1, boxes := [(3, 7777, 10)], key := fun v => v.1 }
  | 10, i :: _ => some { V := Nat × Bool × List UInt8 × List Plan × Int × Int × Int × List Int, st := fun v => ⟨mk 55 [(0, .ptr 0 0), (3, .row 10 7777 0 i), (4, .int .i64 (oneV 8 b)), (5, .int .i64 i), (6, .ptr 7003 0), (7, .int .i64 v.2.2.2.2.2.2.1), (8, .int .i64 v.1)], [], [(0, .cells [.sl 0 v.2.2.1, .bool v.2.1]), (7777, .row 10 v.2.2.2.1), (7778, .row 1 v.2.2.2.2.2.2.2), (7003, .cells [.int .i64 v.2.2.2.2.1, .int .i64 v.2.2.2.2.2.1, .row 1 7778 0 v.1])]⟩, I := fun v => v.1 ≤ v.2.2.2.2.2.2.1.toNat ∧ (0 ≤ v.2.2.2.2.2.2.1 ∧ v.2.2.2.2.2.2.1 ≤ 8) ∧ i < (oneV 8 b).toNat ∧ (0 ≤ oneV 8 b ∧ oneV 8 b ≤ 8) ∧ b.length ≤ 1000000 ∧ v.2.2.1.length ≤ b.length ∧ v.2.2.2.1.length = i ∧ (0 ≤ v.2.2.2.2.1 ∧ v.2.2.2.2.1 ≤ 1048576) ∧ (0 ≤ v.2.2.2.2.2.1 ∧ v.2.2.2.2.2.1 ≤ 1048576) ∧ v.2.2.2.2.2.2.2.length = v.1 ∧ PB b i v.2.2.2.2.1 v.2.2.2.2.2.1 v.2.2.2.2.2.2.1 v.1 v.2.1 v.2.2.1 v.2.2.2.1 v.2.2.2.2.2.2.2, μ := fun v => v.2.2.2.2.2.2.1.toNat - v.1, boxes := [(1000602, 7778, 1)] }
  | _, _ => none
def K1 : Tab := [(83, oneS)]
def K2 : Tab := [(83, oneS), (84, timesS)]
def K2r : Tab := [(82, roneS)]
end Go.Proofs.Ytcdflgfhkohldaa
namespace Go.Proofs.Ytcdflgfhkohldaa
open Go Go.Eng Go.Rw Go.Lk Go.Proofs
open Go.Bk hiding take_step drop_step set_mid
open Go.St hiding take_step
set_option linter.unusedVariables false
set_option maxHeartbeats 2000000 in
theorem one_vc (m : Int) (b : List UInt8) (bad : Bool) (hm : 0 ≤ m ∧ m ≤ 9223372036854775807) (hb : b.length ≤ 1000000) (k : AV → List (Option Blk) → List Blk → Prop) (hk : ∀ (v : Int) (r : List UInt8) (bd : Bool), v = oneV m b → r = oneR m b → bd = (bad || oneB m b) → 0 ≤ v ∧ v ≤ m → r.length ≤ b.length → k (.int .i64 v) [some (.cells [.sl 0 r, .bool bd, .int .i64 0, .nilsl, .nilsl, .nilsl, .nilsl, .nilsl, .int .i64 0, .int .i64 0, .int .i64 0, .int .i64 0, .int .i64 0, .nilsl])] []) : (b.length ≤ 1000000) ∧ ∀ (a_1 : Int), ∀ (b_2 : Int), ∀ (c_3 : Int), (a_1 = (↑(readG 0 0 b).fst : Int)) → (b_2 = (↑(readG 0 0 b).snd.fst : Int)) → (c_3 = (↑(readG 0 0 b).snd.snd : Int)) → (inK .u64 a_1) → (0 ≤ b_2 ∧ b_2 ≤ 10) → (c_3 = 0 ∨ c_3 = 8) → ∀ (n10 : Int), (n10 = IntKind.u64.wrap m) → br (bif c_3 != 0 then true else decide (a_1 > n10)) ((k (.int .i64 0) [some (.cells [.sl 0 b, .bool true, .int .i64 0, .nilsl, .nilsl, .nilsl, .nilsl, .nilsl, .int .i64 0, .int .i64 0, .int .i64 0, .int .i64 0, .int .i64 0, .nilsl])] [])) ((0 ≤ b_2) ∧ (b_2 ≤ (↑b.length : Int)) ∧ ∀ (n12 : Int), (n12 = IntKind.i64.wrap a_1) → (inK .i64 n12) → (k (.int .i64 n12) [some (.cells [.sl 0 (List.drop b_2.toNat b), .bool bad, .int .i64 0, .nilsl, .nilsl, .nilsl, .nilsl, .nilsl, .int .i64 0, .int .i64 0, .int .i64 0, .int .i64 0, .int .i64 0, .nilsl])] [])) := by
 refine ⟨by assumption, ?_⟩
 intro a_1 b_2 c_3 h1 h2 h3 ⟨a4, b4⟩ ⟨a5, b5⟩ h6 n10 q10
 rw [IntKind.wrap_u64] at q10
 refine br_intro (fun c7 => ?_) (fun c7 => ?_)
 ·
  simp at c7
  have C : ¬ ((readG 0 0 b).2.2 = 0 ∧ ((readG 0 0 b).1 : Int) ≤ m) := by omega
  exact hk 0 b true (by unfold oneV; rw [if_neg C]) (by unfold oneR; rw [if_neg C]) (by unfold oneB; rw [if_neg C]; simp) ⟨by omega, by omega⟩ (Nat.le_refl _)
 simp at c7
 refine ⟨by assumption, ?_⟩
 have h8 : b_2 ≤ (↑b.length : Int) := by
  rcases read_only b with R | ⟨m', j, R, r1, r2, r3, r4⟩ <;> rw [R] at h2 h3 <;> dsimp only at h2 h3 <;> omega
 refine ⟨h8, ?_⟩
 intro n12 q12
 rw [IntKind.wrap_i64] at q12
 intro ⟨l12, u12⟩
 have C : (readG 0 0 b).2.2 = 0 ∧ ((readG 0 0 b).1 : Int) ≤ m := by omega
 exact hk n12 _ bad (by unfold oneV; rw [if_pos C]; omega) (by unfold oneR; rw [if_pos C]; congr 1; omega) (by unfold oneB; rw [if_pos C]; simp) ⟨by omega, by omega⟩ (by rw [List.length_drop]; omega)
theorem one_ok : Holds Try.prog 83 oneS := by
  refine fn_soundB (env := mkEnv M1) (tab_ok M1_ok) Try.func83 Try.call83 (fun args B k h => ?_) (by decide)
  unfold oneS at h
  dsimp only at h
  split at h
  · rename_i m b bad
    exact ⟨by kernel_rfl, fun _ _ => none, fun _ _ => none, .cast (by kernel_rfl) (one_vc m b bad h.1 h.2.1 k h.2.2)⟩
  · exact h.elim
theorem K1_ok : TabOk Try.prog K1 := ⟨one_ok, trivial⟩
set_option maxHeartbeats 2000000 in
theorem times_vc (n : Int) (b : List UInt8) (bad : Bool) (hn : 0 ≤ n ∧ n ≤ 8) (hb : b.length ≤ 1000000) (k : AV → List (Option Blk) → List Blk → Prop) (hk : ∀ (ks : List Int) (q : Nat) (r : List UInt8) (bd : Bool), TIn b bad n.toNat n.toNat bd r ks → ks.length = q → q = n.toNat → r.length ≤ b.length → k (.row 1 1 0 q) [some (.cells [.sl 0 r, .bool bd, .int .i64 0, .nilsl, .nilsl, .nilsl, .nilsl, .nilsl, .int .i64 0, .int .i64 0, .int .i64 0, .int .i64 0, .int .i64 0, .nilsl])] [.row 1 ks]) : (∃ (v : Nat × Bool × List UInt8 × List Int), (0 = 0) ∧ (0 = v.fst) ∧ (n = n) ∧ ((0 : Int) = (↑v.fst : Int)) ∧ (b = v.snd.snd.fst) ∧ (bad = v.snd.fst) ∧ ((0 : Int) = (0 : Int)) ∧ ((0 : Int) = (0 : Int)) ∧ ((0 : Int) = (0 : Int)) ∧ ((0 : Int) = (0 : Int)) ∧ ((0 : Int) = (0 : Int)) ∧ ((0 : Int) = (0 : Int)) ∧ ([] = v.snd.snd.snd) ∧ (v.fst ≤ n.toNat) ∧ ((0 ≤ n) ∧ (n ≤ 8)) ∧ (b.length ≤ 1000000) ∧ (v.snd.snd.fst.length ≤ b.length) ∧ (v.snd.snd.snd.length = v.fst) ∧ (TIn b bad n.toNat v.fst v.snd.fst v.snd.snd.fst v.snd.snd.snd)) ∧ ∀ (v_1 : Nat × Bool × List UInt8 × List Int), (v_1.fst ≤ n.toNat ∧ (0 ≤ n ∧ n ≤ 8) ∧ b.length ≤ 1000000 ∧ v_1.snd.snd.fst.length ≤ b.length ∧ v_1.snd.snd.snd.length = v_1.fst ∧ TIn b bad n.toNat v_1.fst v_1.snd.fst v_1.snd.snd.fst v_1.snd.snd.snd) → br (decide ((↑v_1.fst : Int) < n)) ((((0 : Int) ≤ (1048576 : Int)) ∧ ((1048576 : Int) ≤ (9223372036854775807 : Int))) ∧ (v_1.snd.snd.fst.length ≤ 1000000) ∧ ∀ (v_3 : Int), ∀ (r_4 : List UInt8), ∀ (bd_5 : Bool), (v_3 = oneV (1048576 : Int) v_1.snd.snd.fst) → (r_4 = oneR (1048576 : Int) v_1.snd.snd.fst) → (bd_5 = (v_1.snd.fst || oneB (1048576 : Int) v_1.snd.snd.fst)) → (0 ≤ v_3 ∧ v_3 ≤ 1048576) → (r_4.length ≤ v_1.snd.snd.fst.length) → ((v_1.fst + 1) * 8 ≤ 140737488355328) ∧ ∀ (z11 : List Int), (z11 = List.take v_1.fst v_1.snd.snd.snd ++ List.take 1 (List.drop 0 [v_3])) → ∀ (n13 : Int), (n13 = IntKind.i64.wrap ((↑v_1.fst : Int) + (1 : Int))) → (inK .i64 n13) → ∃ (v' : Nat × Bool × List UInt8 × List Int), (0 = 0) ∧ (v_1.fst + 1 = v'.fst) ∧ (n = n) ∧ (n13 = (↑v'.fst : Int)) ∧ (r_4 = v'.snd.snd.fst) ∧ (bd_5 = v'.snd.fst) ∧ ((0 : Int) = (0 : Int)) ∧ ((0 : Int) = (0 : Int)) ∧ ((0 : Int) = (0 : Int)) ∧ ((0 : Int) = (0 : Int)) ∧ ((0 : Int) = (0 : Int)) ∧ ((0 : Int) = (0 : Int)) ∧ (z11 = v'.snd.snd.snd) ∧ ((v'.fst ≤ n.toNat) ∧ ((0 ≤ n) ∧ (n ≤ 8)) ∧ (b.length ≤ 1000000) ∧ (v'.snd.snd.fst.length ≤ b.length) ∧ (v'.snd.snd.snd.length = v'.fst) ∧ (TIn b bad n.toNat v'.fst v'.snd.fst v'.snd.snd.fst v'.snd.snd.snd)) ∧ (n.toNat - v'.fst < n.toNat - v_1.fst)) ((k (.row 1 1 0 v_1.fst) [some (.cells [.sl 0 v_1.snd.snd.fst, .bool v_1.snd.fst, .int .i64 0, .nilsl, .nilsl, .nilsl, .nilsl, .nilsl, .int .i64 0, .int .i64 0, .int .i64 0, .int .i64 0, .int .i64 0, .nilsl])] [.row 1 v_1.snd.snd.snd])) := by
 refine ⟨?_, ?_⟩
 ·
  refine ⟨((0 : Nat), bad, b, []), rfl, rfl, rfl, by show (0 : Int) = (↑(0 : Nat) : Int); omega, rfl, rfl, rfl, rfl, rfl, rfl, rfl, rfl, rfl, by show (0 : Nat) ≤ n.toNat; omega, by first | omega | (dsimp only; omega), by show b.length ≤ (1000000 : Nat); assumption, by show b.length ≤ b.length; omega, rfl, ?_⟩
  exact tin_0 _ _ _
 intro v_1 h1
 refine brd (fun c2 => ?_) (fun c2 => ?_)
 ·
  refine ⟨by first | omega | (dsimp only; omega), by first | omega | (dsimp only; omega), ?_⟩
  intro v_3 r_4 bd_5 h3 h4 h5 ⟨a6, b6⟩ h7
  refine ⟨by first | omega | (dsimp only; omega), ?_⟩
  intro z11 qz11 n13 q13
  rw [IntKind.wrap_i64] at q13
  intro ⟨l13, u13⟩
  refine ⟨(v_1.fst + (1 : Nat), bd_5, r_4, z11), rfl, rfl, rfl, by show n13 = (↑(v_1.fst + (1 : Nat)) : Int); omega, rfl, rfl, rfl, rfl, rfl, rfl, rfl, rfl, rfl, ?_⟩
  refine ⟨?_, ?_⟩
  ·
   refine ⟨by show v_1.fst + (1 : Nat) ≤ n.toNat; omega, by first | omega | (dsimp only; omega), by show b.length ≤ (1000000 : Nat); assumption, by show r_4.length ≤ b.length; omega, ?_⟩
   have h8 : z11.length = v_1.fst + (1 : Nat) := by
    exact (z_app qz11 h1.2.2.2.2.1).2
   refine ⟨h8, ?_⟩
   exact tin_step h1.2.2.2.2.2 (by omega) h3 h4 h5 (z_app qz11 h1.2.2.2.2.1).1
  exact by show n.toNat - (v_1.fst + (1 : Nat)) < n.toNat - v_1.fst; omega
 have e : v_1.fst = n.toNat := by omega
 have t := h1.2.2.2.2.2
 rw [e] at t
 exact hk _ _ _ _ t h1.2.2.2.2.1 e h1.2.2.2.1
theorem times_ok : Holds Try.prog 84 timesS := by
  refine fn_soundB (env := mkEnv K1) (tab_ok K1_ok) Try.func84 Try.call84 (fun args B k h => ?_) (by decide)
  unfold timesS at h
  dsimp only at h
  split at h
  · rename_i n b bad
    exact ⟨by kernel_rfl, timesLoops n b bad, fun _ _ => none, .cast (by kernel_rfl) (times_vc n b bad h.1 h.2.1 k h.2.2)⟩
  · exact h.elim
theorem K2_ok : TabOk Try.prog K2 := ⟨one_ok, times_ok, trivial⟩
set_option maxHeartbeats 2000000 in
theorem plans_vc (b : List UInt8) (hb : b.length ≤ 1000000) (k : AV → List (Option Blk) → List Blk → Prop) (hk : ∀ (l : List Plan) (q : Nat) (r : List UInt8) (bd : Bool), PIn b (oneV (8 : Int) b).toNat bd r l → l.length = q → q ≤ 8 → r.length ≤ b.length → k (.row 10 1 0 q) [some (.cells [.sl 0 r, .bool bd, .int .i64 0, .nilsl, .nilsl, .nilsl, .nilsl, .nilsl, .int .i64 0, .int .i64 0, .int .i64 0, .int .i64 0, .int .i64 0, .nilsl])] [.row 10 l]) : (((0 : Int) ≤ (8 : Int)) ∧ ((8 : Int) ≤ (9223372036854775807 : Int))) ∧ (b.length ≤ 1000000) ∧ ∀ (v_1 : Int), ∀ (r_2 : List UInt8), ∀ (bd_3 : Bool), (v_1 = oneV (8 : Int) b) → (r_2 = oneR (8 : Int) b) → (bd_3 = (false || oneB (8 : Int) b)) → (0 ≤ v_1 ∧ v_1 ≤ 8) → (r_2.length ≤ b.length) → (∃ (v : Nat × Bool × List UInt8 × List Plan), (0 = 0) ∧ (0 = v.fst) ∧ (v_1 = oneV (8 : Int) b) ∧ ((0 : Int) = (↑v.fst : Int)) ∧ (r_2 = v.snd.snd.fst) ∧ (bd_3 = v.snd.fst) ∧ ((0 : Int) = (0 : Int)) ∧ ((0 : Int) = (0 : Int)) ∧ ((0 : Int) = (0 : Int)) ∧ ((0 : Int) = (0 : Int)) ∧ ((0 : Int) = (0 : Int)) ∧ ((0 : Int) = (0 : Int)) ∧ ([] = v.snd.snd.snd) ∧ (v.fst ≤ (oneV (8 : Int) b).toNat) ∧ ((0 ≤ oneV (8 : Int) b) ∧ (oneV (8 : Int) b ≤ 8)) ∧ (b.length ≤ 1000000) ∧ (v.snd.snd.fst.length ≤ b.length) ∧ (v.snd.snd.snd.length = v.fst) ∧ (PIn b v.fst v.snd.fst v.snd.snd.fst v.snd.snd.snd)) ∧ ∀ (v_9 : Nat × Bool × List UInt8 × List Plan), (v_9.fst ≤ (oneV (8 : Int) b).toNat ∧ (0 ≤ oneV (8 : Int) b ∧ oneV (8 : Int) b ≤ 8) ∧ b.length ≤ 1000000 ∧ v_9.snd.snd.fst.length ≤ b.length ∧ v_9.snd.snd.snd.length = v_9.fst ∧ PIn b v_9.fst v_9.snd.fst v_9.snd.snd.fst v_9.snd.snd.snd) → br (decide ((↑v_9.fst : Int) < oneV (8 : Int) b)) ((((((0 : Int) ≤ (1048576 : Int)) ∧ ((1048576 : Int) ≤ (9223372036854775807 : Int))) ∧ (v_9.snd.snd.fst.length ≤ 1000000) ∧ ∀ (v_11 : Int), ∀ (r_12 : List UInt8), ∀ (bd_13 : Bool), (v_11 = oneV (1048576 : Int) v_9.snd.snd.fst) → (r_12 = oneR (1048576 : Int) v_9.snd.snd.fst) → (bd_13 = (v_9.snd.fst || oneB (1048576 : Int) v_9.snd.snd.fst)) → (0 ≤ v_11 ∧ v_11 ≤ 1048576) → (r_12.length ≤ v_9.snd.snd.fst.length) → ((((0 : Int) ≤ (1048576 : Int)) ∧ ((1048576 : Int) ≤ (9223372036854775807 : Int))) ∧ (r_12.length ≤ 1000000) ∧ ∀ (v_19 : Int), ∀ (r_20 : List UInt8), ∀ (bd_21 : Bool), (v_19 = oneV (1048576 : Int) r_12) → (r_20 = oneR (1048576 : Int) r_12) → (bd_21 = (bd_13 || oneB (1048576 : Int) r_12)) → (0 ≤ v_19 ∧ v_19 ≤ 1048576) → (r_20.length ≤ r_12.length) → ∃ (v : Bool × List UInt8 × List Plan × Int × Int), (0 = 0) ∧ (v_9.fst = v_9.fst) ∧ (oneV (8 : Int) b = oneV (8 : Int) b) ∧ ((↑v_9.fst : Int) = (↑v_9.fst : Int)) ∧ (r_20 = v.snd.fst) ∧ (bd_21 = v.fst) ∧ ((0 : Int) = (0 : Int)) ∧ ((0 : Int) = (0 : Int)) ∧ ((0 : Int) = (0 : Int)) ∧ ((0 : Int) = (0 : Int)) ∧ ((0 : Int) = (0 : Int)) ∧ ((0 : Int) = (0 : Int)) ∧ (v_9.snd.snd.snd = v.snd.snd.fst) ∧ (v_11 = v.snd.snd.snd.fst) ∧ (v_19 = v.snd.snd.snd.snd) ∧ (v_9.fst < (oneV (8 : Int) b).toNat) ∧ ((0 ≤ oneV (8 : Int) b) ∧ (oneV (8 : Int) b ≤ 8)) ∧ (b.length ≤ 1000000) ∧ (v.snd.fst.length ≤ b.length) ∧ (v.snd.snd.fst.length = v_9.fst) ∧ ((0 ≤ v.snd.snd.snd.fst) ∧ (v.snd.snd.snd.fst ≤ 1048576)) ∧ ((0 ≤ v.snd.snd.snd.snd) ∧ (v.snd.snd.snd.snd ≤ 1048576)) ∧ (PA b v_9.fst v.snd.snd.snd.fst v.snd.snd.snd.snd v.snd.fst v.fst v.snd.snd.fst)) ∧ (((0 : Int) ≤ (1048576 : Int)) ∧ ((1048576 : Int) ≤ (9223372036854775807 : Int))) ∧ (r_12.length ≤ 1000000) ∧ ∀ (v_27 : Int), ∀ (r_28 : List UInt8), ∀ (bd_29 : Bool), (v_27 = oneV (1048576 : Int) r_12) → (r_28 = oneR (1048576 : Int) r_12) → (bd_29 = (bd_13 || oneB (1048576 : Int) r_12)) → (0 ≤ v_27 ∧ v_27 ≤ 1048576) → (r_28.length ≤ r_12.length) → ∃ (v : Bool × List UInt8 × List Plan × Int × Int), (0 = 0) ∧ (v_9.fst = v_9.fst) ∧ (oneV (8 : Int) b = oneV (8 : Int) b) ∧ ((↑v_9.fst : Int) = (↑v_9.fst : Int)) ∧ (r_28 = v.snd.fst) ∧ (bd_29 = v.fst) ∧ ((0 : Int) = (0 : Int)) ∧ ((0 : Int) = (0 : Int)) ∧ ((0 : Int) = (0 : Int)) ∧ ((0 : Int) = (0 : Int)) ∧ ((0 : Int) = (0 : Int)) ∧ ((0 : Int) = (0 : Int)) ∧ (v_9.snd.snd.snd = v.snd.snd.fst) ∧ (v_11 = v.snd.snd.snd.fst) ∧ (v_27 = v.snd.snd.snd.snd) ∧ (v_9.fst < (oneV (8 : Int) b).toNat) ∧ ((0 ≤ oneV (8 : Int) b) ∧ (oneV (8 : Int) b ≤ 8)) ∧ (b.length ≤ 1000000) ∧ (v.snd.fst.length ≤ b.length) ∧ (v.snd.snd.fst.length = v_9.fst) ∧ ((0 ≤ v.snd.snd.snd.fst) ∧ (v.snd.snd.snd.fst ≤ 1048576)) ∧ ((0 ≤ v.snd.snd.snd.snd) ∧ (v.snd.snd.snd.snd ≤ 1048576)) ∧ (PA b v_9.fst v.snd.snd.snd.fst v.snd.snd.snd.snd v.snd.fst v.fst v.snd.snd.fst)) ∧ (((((0 : Int) ≤ (1048576 : Int)) ∧ ((1048576 : Int) ≤ (9223372036854775807 : Int))) ∧ (v_9.snd.snd.fst.length ≤ 1000000) ∧ ∀ (v_35 : Int), ∀ (r_36 : List UInt8), ∀ (bd_37 : Bool), (v_35 = oneV (1048576 : Int) v_9.snd.snd.fst) → (r_36 = oneR (1048576 : Int) v_9.snd.snd.fst) → (bd_37 = (v_9.snd.fst || oneB (1048576 : Int) v_9.snd.snd.fst)) → (0 ≤ v_35 ∧ v_35 ≤ 1048576) → (r_36.length ≤ v_9.snd.snd.fst.length) → ((((0 : Int) ≤ (1048576 : Int)) ∧ ((1048576 : Int) ≤ (9223372036854775807 : Int))) ∧ (r_36.length ≤ 1000000) ∧ ∀ (v_43 : Int), ∀ (r_44 : List UInt8), ∀ (bd_45 : Bool), (v_43 = oneV (1048576 : Int) r_36) → (r_44 = oneR (1048576 : Int) r_36) → (bd_45 = (bd_37 || oneB (1048576 : Int) r_36)) → (0 ≤ v_43 ∧ v_43 ≤ 1048576) → (r_44.length ≤ r_36.length) → ∃ (v : Bool × List UInt8 × List Plan × Int × Int), (0 = 0) ∧ (v_9.fst = v_9.fst) ∧ (oneV (8 : Int) b = oneV (8 : Int) b) ∧ ((↑v_9.fst : Int) = (↑v_9.fst : Int)) ∧ (r_44 = v.snd.fst) ∧ (bd_45 = v.fst) ∧ ((0 : Int) = (0 : Int)) ∧ ((0 : Int) = (0 : Int)) ∧ ((0 : Int) = (0 : Int)) ∧ ((0 : Int) = (0 : Int)) ∧ ((0 : Int) = (0 : Int)) ∧ ((0 : Int) = (0 : Int)) ∧ (v_9.snd.snd.snd = v.snd.snd.fst) ∧ (v_35 = v.snd.snd.snd.fst) ∧ (v_43 = v.snd.snd.snd.snd) ∧ (v_9.fst < (oneV (8 : Int) b).toNat) ∧ ((0 ≤ oneV (8 : Int) b) ∧ (oneV (8 : Int) b ≤ 8)) ∧ (b.length ≤ 1000000) ∧ (v.snd.fst.length ≤ b.length) ∧ (v.snd.snd.fst.length = v_9.fst) ∧ ((0 ≤ v.snd.snd.snd.fst) ∧ (v.snd.snd.snd.fst ≤ 1048576)) ∧ ((0 ≤ v.snd.snd.snd.snd) ∧ (v.snd.snd.snd.snd ≤ 1048576)) ∧ (PA b v_9.fst v.snd.snd.snd.fst v.snd.snd.snd.snd v.snd.fst v.fst v.snd.snd.fst)) ∧ (((0 : Int) ≤ (1048576 : Int)) ∧ ((1048576 : Int) ≤ (9223372036854775807 : Int))) ∧ (r_36.length ≤ 1000000) ∧ ∀ (v_51 : Int), ∀ (r_52 : List UInt8), ∀ (bd_53 : Bool), (v_51 = oneV (1048576 : Int) r_36) → (r_52 = oneR (1048576 : Int) r_36) → (bd_53 = (bd_37 || oneB (1048576 : Int) r_36)) → (0 ≤ v_51 ∧ v_51 ≤ 1048576) → (r_52.length ≤ r_36.length) → ∃ (v : Bool × List UInt8 × List Plan × Int × Int), (0 = 0) ∧ (v_9.fst = v_9.fst) ∧ (oneV (8 : Int) b = oneV (8 : Int) b) ∧ ((↑v_9.fst : Int) = (↑v_9.fst : Int)) ∧ (r_52 = v.snd.fst) ∧ (bd_53 = v.fst) ∧ ((0 : Int) = (0 : Int)) ∧ ((0 : Int) = (0 : Int)) ∧ ((0 : Int) = (0 : Int)) ∧ ((0 : Int) = (0 : Int)) ∧ ((0 : Int) = (0 : Int)) ∧ ((0 : Int) = (0 : Int)) ∧ (v_9.snd.snd.snd = v.snd.snd.fst) ∧ (v_35 = v.snd.snd.snd.fst) ∧ (v_51 = v.snd.snd.snd.snd) ∧ (v_9.fst < (oneV (8 : Int) b).toNat) ∧ ((0 ≤ oneV (8 : Int) b) ∧ (oneV (8 : Int) b ≤ 8)) ∧ (b.length ≤ 1000000) ∧ (v.snd.fst.length ≤ b.length) ∧ (v.snd.snd.fst.length = v_9.fst) ∧ ((0 ≤ v.snd.snd.snd.fst) ∧ (v.snd.snd.snd.fst ≤ 1048576)) ∧ ((0 ≤ v.snd.snd.snd.snd) ∧ (v.snd.snd.snd.snd ≤ 1048576)) ∧ (PA b v_9.fst v.snd.snd.snd.fst v.snd.snd.snd.snd v.snd.fst v.fst v.snd.snd.fst)) ∧ (((((0 : Int) ≤ (1048576 : Int)) ∧ ((1048576 : Int) ≤ (9223372036854775807 : Int))) ∧ (v_9.snd.snd.fst.length ≤ 1000000) ∧ ∀ (v_59 : Int), ∀ (r_60 : List UInt8), ∀ (bd_61 : Bool), (v_59 = oneV (1048576 : Int) v_9.snd.snd.fst) → (r_60 = oneR (1048576 : Int) v_9.snd.snd.fst) → (bd_61 = (v_9.snd.fst || oneB (1048576 : Int) v_9.snd.snd.fst)) → (0 ≤ v_59 ∧ v_59 ≤ 1048576) → (r_60.length ≤ v_9.snd.snd.fst.length) → ((((0 : Int) ≤ (1048576 : Int)) ∧ ((1048576 : Int) ≤ (9223372036854775807 : Int))) ∧ (r_60.length ≤ 1000000) ∧ ∀ (v_67 : Int), ∀ (r_68 : List UInt8), ∀ (bd_69 : Bool), (v_67 = oneV (1048576 : Int) r_60) → (r_68 = oneR (1048576 : Int) r_60) → (bd_69 = (bd_61 || oneB (1048576 : Int) r_60)) → (0 ≤ v_67 ∧ v_67 ≤ 1048576) → (r_68.length ≤ r_60.length) → ∃ (v : Bool × List UInt8 × List Plan × Int × Int), (0 = 0) ∧ (v_9.fst = v_9.fst) ∧ (oneV (8 : Int) b = oneV (8 : Int) b) ∧ ((↑v_9.fst : Int) = (↑v_9.fst : Int)) ∧ (r_68 = v.snd.fst) ∧ (bd_69 = v.fst) ∧ ((0 : Int) = (0 : Int)) ∧ ((0 : Int) = (0 : Int)) ∧ ((0 : Int) = (0 : Int)) ∧ ((0 : Int) = (0 : Int)) ∧ ((0 : Int) = (0 : Int)) ∧ ((0 : Int) = (0 : Int)) ∧ (v_9.snd.snd.snd = v.snd.snd.fst) ∧ (v_59 = v.snd.snd.snd.fst) ∧ (v_67 = v.snd.snd.snd.snd) ∧ (v_9.fst < (oneV (8 : Int) b).toNat) ∧ ((0 ≤ oneV (8 : Int) b) ∧ (oneV (8 : Int) b ≤ 8)) ∧ (b.length ≤ 1000000) ∧ (v.snd.fst.length ≤ b.length) ∧ (v.snd.snd.fst.length = v_9.fst) ∧ ((0 ≤ v.snd.snd.snd.fst) ∧ (v.snd.snd.snd.fst ≤ 1048576)) ∧ ((0 ≤ v.snd.snd.snd.snd) ∧ (v.snd.snd.snd.snd ≤ 1048576)) ∧ (PA b v_9.fst v.snd.snd.snd.fst v.snd.snd.snd.snd v.snd.fst v.fst v.snd.snd.fst)) ∧ (((0 : Int) ≤ (1048576 : Int)) ∧ ((1048576 : Int) ≤ (9223372036854775807 : Int))) ∧ (r_60.length ≤ 1000000) ∧ ∀ (v_75 : Int), ∀ (r_76 : List UInt8), ∀ (bd_77 : Bool), (v_75 = oneV (1048576 : Int) r_60) → (r_76 = oneR (1048576 : Int) r_60) → (bd_77 = (bd_61 || oneB (1048576 : Int) r_60)) → (0 ≤ v_75 ∧ v_75 ≤ 1048576) → (r_76.length ≤ r_60.length) → ∃ (v : Bool × List UInt8 × List Plan × Int × Int), (0 = 0) ∧ (v_9.fst = v_9.fst) ∧ (oneV (8 : Int) b = oneV (8 : Int) b) ∧ ((↑v_9.fst : Int) = (↑v_9.fst : Int)) ∧ (r_76 = v.snd.fst) ∧ (bd_77 = v.fst) ∧ ((0 : Int) = (0 : Int)) ∧ ((0 : Int) = (0 : Int)) ∧ ((0 : Int) = (0 : Int)) ∧ ((0 : Int) = (0 : Int)) ∧ ((0 : Int) = (0 : Int)) ∧ ((0 : Int) = (0 : Int)) ∧ (v_9.snd.snd.snd = v.snd.snd.fst) ∧ (v_59 = v.snd.snd.snd.fst) ∧ (v_75 = v.snd.snd.snd.snd) ∧ (v_9.fst < (oneV (8 : Int) b).toNat) ∧ ((0 ≤ oneV (8 : Int) b) ∧ (oneV (8 : Int) b ≤ 8)) ∧ (b.length ≤ 1000000) ∧ (v.snd.fst.length ≤ b.length) ∧ (v.snd.snd.fst.length = v_9.fst) ∧ ((0 ≤ v.snd.snd.snd.fst) ∧ (v.snd.snd.snd.fst ≤ 1048576)) ∧ ((0 ≤ v.snd.snd.snd.snd) ∧ (v.snd.snd.snd.snd ≤ 1048576)) ∧ (PA b v_9.fst v.snd.snd.snd.fst v.snd.snd.snd.snd v.snd.fst v.fst v.snd.snd.fst)) ∧ (((0 : Int) ≤ (1048576 : Int)) ∧ ((1048576 : Int) ≤ (9223372036854775807 : Int))) ∧ (v_9.snd.snd.fst.length ≤ 1000000) ∧ ∀ (v_83 : Int), ∀ (r_84 : List UInt8), ∀ (bd_85 : Bool), (v_83 = oneV (1048576 : Int) v_9.snd.snd.fst) → (r_84 = oneR (1048576 : Int) v_9.snd.snd.fst) → (bd_85 = (v_9.snd.fst || oneB (1048576 : Int) v_9.snd.snd.fst)) → (0 ≤ v_83 ∧ v_83 ≤ 1048576) → (r_84.length ≤ v_9.snd.snd.fst.length) → (((0 : Int) ≤ (1048576 : Int)) ∧ ((1048576 : Int) ≤ (9223372036854775807 : Int))) ∧ (r_84.length ≤ 1000000) ∧ ∀ (v_91 : Int), ∀ (r_92 : List UInt8), ∀ (bd_93 : Bool), (v_91 = oneV (1048576 : Int) r_84) → (r_92 = oneR (1048576 : Int) r_84) → (bd_93 = (bd_85 || oneB (1048576 : Int) r_84)) → (0 ≤ v_91 ∧ v_91 ≤ 1048576) → (r_92.length ≤ r_84.length) → ∃ (v : Bool × List UInt8 × List Plan × Int × Int), (0 = 0) ∧ (v_9.fst = v_9.fst) ∧ (oneV (8 : Int) b = oneV (8 : Int) b) ∧ ((↑v_9.fst : Int) = (↑v_9.fst : Int)) ∧ (r_92 = v.snd.fst) ∧ (bd_93 = v.fst) ∧ ((0 : Int) = (0 : Int)) ∧ ((0 : Int) = (0 : Int)) ∧ ((0 : Int) = (0 : Int)) ∧ ((0 : Int) = (0 : Int)) ∧ ((0 : Int) = (0 : Int)) ∧ ((0 : Int) = (0 : Int)) ∧ (v_9.snd.snd.snd = v.snd.snd.fst) ∧ (v_83 = v.snd.snd.snd.fst) ∧ (v_91 = v.snd.snd.snd.snd) ∧ (v_9.fst < (oneV (8 : Int) b).toNat) ∧ ((0 ≤ oneV (8 : Int) b) ∧ (oneV (8 : Int) b ≤ 8)) ∧ (b.length ≤ 1000000) ∧ (v.snd.fst.length ≤ b.length) ∧ (v.snd.snd.fst.length = v_9.fst) ∧ ((0 ≤ v.snd.snd.snd.fst) ∧ (v.snd.snd.snd.fst ≤ 1048576)) ∧ ((0 ≤ v.snd.snd.snd.snd) ∧ (v.snd.snd.snd.snd ≤ 1048576)) ∧ (PA b v_9.fst v.snd.snd.snd.fst v.snd.snd.snd.snd v.snd.fst v.fst v.snd.snd.fst)) ∧ ((((0 : Int) ≤ (1048576 : Int)) ∧ ((1048576 : Int) ≤ (9223372036854775807 : Int))) ∧ (v_9.snd.snd.fst.length ≤ 1000000) ∧ ∀ (v_99 : Int), ∀ (r_100 : List UInt8), ∀ (bd_101 : Bool), (v_99 = oneV (1048576 : Int) v_9.snd.snd.fst) → (r_100 = oneR (1048576 : Int) v_9.snd.snd.fst) → (bd_101 = (v_9.snd.fst || oneB (1048576 : Int) v_9.snd.snd.fst)) → (0 ≤ v_99 ∧ v_99 ≤ 1048576) → (r_100.length ≤ v_9.snd.snd.fst.length) → (((0 : Int) ≤ (1048576 : Int)) ∧ ((1048576 : Int) ≤ (9223372036854775807 : Int))) ∧ (r_100.length ≤ 1000000) ∧ ∀ (v_107 : Int), ∀ (r_108 : List UInt8), ∀ (bd_109 : Bool), (v_107 = oneV (1048576 : Int) r_100) → (r_108 = oneR (1048576 : Int) r_100) → (bd_109 = (bd_101 || oneB (1048576 : Int) r_100)) → (0 ≤ v_107 ∧ v_107 ≤ 1048576) → (r_108.length ≤ r_100.length) → ∃ (v : Bool × List UInt8 × List Plan × Int × Int), (0 = 0) ∧ (v_9.fst = v_9.fst) ∧ (oneV (8 : Int) b = oneV (8 : Int) b) ∧ ((↑v_9.fst : Int) = (↑v_9.fst : Int)) ∧ (r_108 = v.snd.fst) ∧ (bd_109 = v.fst) ∧ ((0 : Int) = (0 : Int)) ∧ ((0 : Int) = (0 : Int)) ∧ ((0 : Int) = (0 : Int)) ∧ ((0 : Int) = (0 : Int)) ∧ ((0 : Int) = (0 : Int)) ∧ ((0 : Int) = (0 : Int)) ∧ (v_9.snd.snd.snd = v.snd.snd.fst) ∧ (v_99 = v.snd.snd.snd.fst) ∧ (v_107 = v.snd.snd.snd.snd) ∧ (v_9.fst < (oneV (8 : Int) b).toNat) ∧ ((0 ≤ oneV (8 : Int) b) ∧ (oneV (8 : Int) b ≤ 8)) ∧ (b.length ≤ 1000000) ∧ (v.snd.fst.length ≤ b.length) ∧ (v.snd.snd.fst.length = v_9.fst) ∧ ((0 ≤ v.snd.snd.snd.fst) ∧ (v.snd.snd.snd.fst ≤ 1048576)) ∧ ((0 ≤ v.snd.snd.snd.snd) ∧ (v.snd.snd.snd.snd ≤ 1048576)) ∧ (PA b v_9.fst v.snd.snd.snd.fst v.snd.snd.snd.snd v.snd.fst v.fst v.snd.snd.fst)) ∧ (((0 : Int) ≤ (1048576 : Int)) ∧ ((1048576 : Int) ≤ (9223372036854775807 : Int))) ∧ (v_9.snd.snd.fst.length ≤ 1000000) ∧ ∀ (v_115 : Int), ∀ (r_116 : List UInt8), ∀ (bd_117 : Bool), (v_115 = oneV (1048576 : Int) v_9.snd.snd.fst) → (r_116 = oneR (1048576 : Int) v_9.snd.snd.fst) → (bd_117 = (v_9.snd.fst || oneB (1048576 : Int) v_9.snd.snd.fst)) → (0 ≤ v_115 ∧ v_115 ≤ 1048576) → (r_116.length ≤ v_9.snd.snd.fst.length) → (((0 : Int) ≤ (1048576 : Int)) ∧ ((1048576 : Int) ≤ (9223372036854775807 : Int))) ∧ (r_116.length ≤ 1000000) ∧ ∀ (v_123 : Int), ∀ (r_124 : List UInt8), ∀ (bd_125 : Bool), (v_123 = oneV (1048576 : Int) r_116) → (r_124 = oneR (1048576 : Int) r_116) → (bd_125 = (bd_117 || oneB (1048576 : Int) r_116)) → (0 ≤ v_123 ∧ v_123 ≤ 1048576) → (r_124.length ≤ r_116.length) → ∃ (v : Bool × List UInt8 × List Plan × Int × Int), (0 = 0) ∧ (v_9.fst = v_9.fst) ∧ (oneV (8 : Int) b = oneV (8 : Int) b) ∧ ((↑v_9.fst : Int) = (↑v_9.fst : Int)) ∧ (r_124 = v.snd.fst) ∧ (bd_125 = v.fst) ∧ ((0 : Int) = (0 : Int)) ∧ ((0 : Int) = (0 : Int)) ∧ ((0 : Int) = (0 : Int)) ∧ ((0 : Int) = (0 : Int)) ∧ ((0 : Int) = (0 : Int)) ∧ ((0 : Int) = (0 : Int)) ∧ (v_9.snd.snd.snd = v.snd.snd.fst) ∧ (v_115 = v.snd.snd.snd.fst) ∧ (v_123 = v.snd.snd.snd.snd) ∧ (v_9.fst < (oneV (8 : Int) b).toNat) ∧ ((0 ≤ oneV (8 : Int) b) ∧ (oneV (8 : Int) b ≤ 8)) ∧ (b.length ≤ 1000000) ∧ (v.snd.fst.length ≤ b.length) ∧ (v.snd.snd.fst.length = v_9.fst) ∧ ((0 ≤ v.snd.snd.snd.fst) ∧ (v.snd.snd.snd.fst ≤ 1048576)) ∧ ((0 ≤ v.snd.snd.snd.snd) ∧ (v.snd.snd.snd.snd ≤ 1048576)) ∧ (PA b v_9.fst v.snd.snd.snd.fst v.snd.snd.snd.snd v.snd.fst v.fst v.snd.snd.fst)) ∧ ((((0 : Int) ≤ (1048576 : Int)) ∧ ((1048576 : Int) ≤ (9223372036854775807 : Int))) ∧ (v_9.snd.snd.fst.length ≤ 1000000) ∧ ∀ (v_131 : Int), ∀ (r_132 : List UInt8), ∀ (bd_133 : Bool), (v_131 = oneV (1048576 : Int) v_9.snd.snd.fst) → (r_132 = oneR (1048576 : Int) v_9.snd.snd.fst) → (bd_133 = (v_9.snd.fst || oneB (1048576 : Int) v_9.snd.snd.fst)) → (0 ≤ v_131 ∧ v_131 ≤ 1048576) → (r_132.length ≤ v_9.snd.snd.fst.length) → (((0 : Int) ≤ (1048576 : Int)) ∧ ((1048576 : Int) ≤ (9223372036854775807 : Int))) ∧ (r_132.length ≤ 1000000) ∧ ∀ (v_139 : Int), ∀ (r_140 : List UInt8), ∀ (bd_141 : Bool), (v_139 = oneV (1048576 : Int) r_132) → (r_140 = oneR (1048576 : Int) r_132) → (bd_141 = (bd_133 || oneB (1048576 : Int) r_132)) → (0 ≤ v_139 ∧ v_139 ≤ 1048576) → (r_140.length ≤ r_132.length) → ∃ (v : Bool × List UInt8 × List Plan × Int × Int), (0 = 0) ∧ (v_9.fst = v_9.fst) ∧ (oneV (8 : Int) b = oneV (8 : Int) b) ∧ ((↑v_9.fst : Int) = (↑v_9.fst : Int)) ∧ (r_140 = v.snd.fst) ∧ (bd_141 = v.fst) ∧ ((0 : Int) = (0 : Int)) ∧ ((0 : Int) = (0 : Int)) ∧ ((0 : Int) = (0 : Int)) ∧ ((0 : Int) = (0 : Int)) ∧ ((0 : Int) = (0 : Int)) ∧ ((0 : Int) = (0 : Int)) ∧ (v_9.snd.snd.snd = v.snd.snd.fst) ∧ (v_131 = v.snd.snd.snd.fst) ∧ (v_139 = v.snd.snd.snd.snd) ∧ (v_9.fst < (oneV (8 : Int) b).toNat) ∧ ((0 ≤ oneV (8 : Int) b) ∧ (oneV (8 : Int) b ≤ 8)) ∧ (b.length ≤ 1000000) ∧ (v.snd.fst.length ≤ b.length) ∧ (v.snd.snd.fst.length = v_9.fst) ∧ ((0 ≤ v.snd.snd.snd.fst) ∧ (v.snd.snd.snd.fst ≤ 1048576)) ∧ ((0 ≤ v.snd.snd.snd.snd) ∧ (v.snd.snd.snd.snd ≤ 1048576)) ∧ (PA b v_9.fst v.snd.snd.snd.fst v.snd.snd.snd.snd v.snd.fst v.fst v.snd.snd.fst)) ∧ ((((0 : Int) ≤ (1048576 : Int)) ∧ ((1048576 : Int) ≤ (9223372036854775807 : Int))) ∧ (v_9.snd.snd.fst.length ≤ 1000000) ∧ ∀ (v_147 : Int), ∀ (r_148 : List UInt8), ∀ (bd_149 : Bool), (v_147 = oneV (1048576 : Int) v_9.snd.snd.fst) → (r_148 = oneR (1048576 : Int) v_9.snd.snd.fst) → (bd_149 = (v_9.snd.fst || oneB (1048576 : Int) v_9.snd.snd.fst)) → (0 ≤ v_147 ∧ v_147 ≤ 1048576) → (r_148.length ≤ v_9.snd.snd.fst.length) → (((0 : Int) ≤ (1048576 : Int)) ∧ ((1048576 : Int) ≤ (9223372036854775807 : Int))) ∧ (r_148.length ≤ 1000000) ∧ ∀ (v_155 : Int), ∀ (r_156 : List UInt8), ∀ (bd_157 : Bool), (v_155 = oneV (1048576 : Int) r_148) → (r_156 = oneR (1048576 : Int) r_148) → (bd_157 = (bd_149 || oneB (1048576 : Int) r_148)) → (0 ≤ v_155 ∧ v_155 ≤ 1048576) → (r_156.length ≤ r_148.length) → ∃ (v : Bool × List UInt8 × List Plan × Int × Int), (0 = 0) ∧ (v_9.fst = v_9.fst) ∧ (oneV (8 : Int) b = oneV (8 : Int) b) ∧ ((↑v_9.fst : Int) = (↑v_9.fst : Int)) ∧ (r_156 = v.snd.fst) ∧ (bd_157 = v.fst) ∧ ((0 : Int) = (0 : Int)) ∧ ((0 : Int) = (0 : Int)) ∧ ((0 : Int) = (0 : Int)) ∧ ((0 : Int) = (0 : Int)) ∧ ((0 : Int) = (0 : Int)) ∧ ((0 : Int) = (0 : Int)) ∧ (v_9.snd.snd.snd = v.snd.snd.fst) ∧ (v_147 = v.snd.snd.snd.fst) ∧ (v_155 = v.snd.snd.snd.snd) ∧ (v_9.fst < (oneV (8 : Int) b).toNat) ∧ ((0 ≤ oneV (8 : Int) b) ∧ (oneV (8 : Int) b ≤ 8)) ∧ (b.length ≤ 1000000) ∧ (v.snd.fst.length ≤ b.length) ∧ (v.snd.snd.fst.length = v_9.fst) ∧ ((0 ≤ v.snd.snd.snd.fst) ∧ (v.snd.snd.snd.fst ≤ 1048576)) ∧ ((0 ≤ v.snd.snd.snd.snd) ∧ (v.snd.snd.snd.snd ≤ 1048576)) ∧ (PA b v_9.fst v.snd.snd.snd.fst v.snd.snd.snd.snd v.snd.fst v.fst v.snd.snd.fst)) ∧ (((0 : Int) ≤ (1048576 : Int)) ∧ ((1048576 : Int) ≤ (9223372036854775807 : Int))) ∧ (v_9.snd.snd.fst.length ≤ 1000000) ∧ ∀ (v_163 : Int), ∀ (r_164 : List UInt8), ∀ (bd_165 : Bool), (v_163 = oneV (1048576 : Int) v_9.snd.snd.fst) → (r_164 = oneR (1048576 : Int) v_9.snd.snd.fst) → (bd_165 = (v_9.snd.fst || oneB (1048576 : Int) v_9.snd.snd.fst)) → (0 ≤ v_163 ∧ v_163 ≤ 1048576) → (r_164.length ≤ v_9.snd.snd.fst.length) → (((0 : Int) ≤ (1048576 : Int)) ∧ ((1048576 : Int) ≤ (9223372036854775807 : Int))) ∧ (r_164.length ≤ 1000000) ∧ ∀ (v_171 : Int), ∀ (r_172 : List UInt8), ∀ (bd_173 : Bool), (v_171 = oneV (1048576 : Int) r_164) → (r_172 = oneR (1048576 : Int) r_164) → (bd_173 = (bd_165 || oneB (1048576 : Int) r_164)) → (0 ≤ v_171 ∧ v_171 ≤ 1048576) → (r_172.length ≤ r_164.length) → ∃ (v : Bool × List UInt8 × List Plan × Int × Int), (0 = 0) ∧ (v_9.fst = v_9.fst) ∧ (oneV (8 : Int) b = oneV (8 : Int) b) ∧ ((↑v_9.fst : Int) = (↑v_9.fst : Int)) ∧ (r_172 = v.snd.fst) ∧ (bd_173 = v.fst) ∧ ((0 : Int) = (0 : Int)) ∧ ((0 : Int) = (0 : Int)) ∧ ((0 : Int) = (0 : Int)) ∧ ((0 : Int) = (0 : Int)) ∧ ((0 : Int) = (0 : Int)) ∧ ((0 : Int) = (0 : Int)) ∧ (v_9.snd.snd.snd = v.snd.snd.fst) ∧ (v_163 = v.snd.snd.snd.fst) ∧ (v_171 = v.snd.snd.snd.snd) ∧ (v_9.fst < (oneV (8 : Int) b).toNat) ∧ ((0 ≤ oneV (8 : Int) b) ∧ (oneV (8 : Int) b ≤ 8)) ∧ (b.length ≤ 1000000) ∧ (v.snd.fst.length ≤ b.length) ∧ (v.snd.snd.fst.length = v_9.fst) ∧ ((0 ≤ v.snd.snd.snd.fst) ∧ (v.snd.snd.snd.fst ≤ 1048576)) ∧ ((0 ≤ v.snd.snd.snd.snd) ∧ (v.snd.snd.snd.snd ≤ 1048576)) ∧ (PA b v_9.fst v.snd.snd.snd.fst v.snd.snd.snd.snd v.snd.fst v.fst v.snd.snd.fst)) ∧ ∀ (v_179 : Bool × List UInt8 × List Plan × Int × Int), (v_9.fst < (oneV (8 : Int) b).toNat ∧ (0 ≤ oneV (8 : Int) b ∧ oneV (8 : Int) b ≤ 8) ∧ b.length ≤ 1000000 ∧ v_179.snd.fst.length ≤ b.length ∧ v_179.snd.snd.fst.length = v_9.fst ∧ (0 ≤ v_179.snd.snd.snd.fst ∧ v_179.snd.snd.snd.fst ≤ 1048576) ∧ (0 ≤ v_179.snd.snd.snd.snd ∧ v_179.snd.snd.snd.snd ≤ 1048576) ∧ PA b v_9.fst v_179.snd.snd.snd.fst v_179.snd.snd.snd.snd v_179.snd.fst v_179.fst v_179.snd.snd.fst) → (((((0 : Int) ≤ (8 : Int)) ∧ ((8 : Int) ≤ (9223372036854775807 : Int))) ∧ (v_179.snd.fst.length ≤ 1000000) ∧ ∀ (v_181 : Int), ∀ (r_182 : List UInt8), ∀ (bd_183 : Bool), (v_181 = oneV (8 : Int) v_179.snd.fst) → (r_182 = oneR (8 : Int) v_179.snd.fst) → (bd_183 = (v_179.fst || oneB (8 : Int) v_179.snd.fst)) → (0 ≤ v_181 ∧ v_181 ≤ 8) → (r_182.length ≤ v_179.snd.fst.length) → ((0 ≤ v_181) ∧ (v_181 ≤ 8)) ∧ (r_182.length ≤ 1000000) ∧ ∀ (ks_189 : List Int), ∀ (q_190 : Nat), ∀ (r_191 : List UInt8), ∀ (bd_192 : Bool), (TIn r_182 bd_183 v_181.toNat v_181.toNat bd_192 r_191 ks_189) → (ks_189.length = q_190) → (q_190 = v_181.toNat) → (r_191.length ≤ r_182.length) → ((v_9.fst + 1) * 40 ≤ 140737488355328) ∧ ∀ (z197 : List Plan), (z197 = List.take v_9.fst v_179.snd.snd.fst ++ List.take 1 (List.drop 0 [{ cycle := v_179.snd.snd.snd.fst, offset := v_179.snd.snd.snd.snd, splits := List.take q_190 (List.drop 0 ks_189) : Plan }])) → ∀ (n199 : Int), (n199 = IntKind.i64.wrap ((↑v_9.fst : Int) + (1 : Int))) → (inK .i64 n199) → ∃ (v' : Nat × Bool × List UInt8 × List Plan), (0 = 0) ∧ (v_9.fst + 1 = v'.fst) ∧ (oneV (8 : Int) b = oneV (8 : Int) b) ∧ (n199 = (↑v'.fst : Int)) ∧ (r_191 = v'.snd.snd.fst) ∧ (bd_192 = v'.snd.fst) ∧ ((0 : Int) = (0 : Int)) ∧ ((0 : Int) = (0 : Int)) ∧ ((0 : Int) = (0 : Int)) ∧ ((0 : Int) = (0 : Int)) ∧ ((0 : Int) = (0 : Int)) ∧ ((0 : Int) = (0 : Int)) ∧ (z197 = v'.snd.snd.snd) ∧ ((v'.fst ≤ (oneV (8 : Int) b).toNat) ∧ ((0 ≤ oneV (8 : Int) b) ∧ (oneV (8 : Int) b ≤ 8)) ∧ (b.length ≤ 1000000) ∧ (v'.snd.snd.fst.length ≤ b.length) ∧ (v'.snd.snd.snd.length = v'.fst) ∧ (PIn b v'.fst v'.snd.fst v'.snd.snd.fst v'.snd.snd.snd)) ∧ ((oneV (8 : Int) b).toNat - v'.fst < (oneV (8 : Int) b).toNat - v_9.fst)) ∧ (((0 : Int) ≤ (8 : Int)) ∧ ((8 : Int) ≤ (9223372036854775807 : Int))) ∧ (v_179.snd.fst.length ≤ 1000000) ∧ ∀ (v_202 : Int), ∀ (r_203 : List UInt8), ∀ (bd_204 : Bool), (v_202 = oneV (8 : Int) v_179.snd.fst) → (r_203 = oneR (8 : Int) v_179.snd.fst) → (bd_204 = (v_179.fst || oneB (8 : Int) v_179.snd.fst)) → (0 ≤ v_202 ∧ v_202 ≤ 8) → (r_203.length ≤ v_179.snd.fst.length) → ((0 ≤ v_202) ∧ (v_202 ≤ 8)) ∧ (r_203.length ≤ 1000000) ∧ ∀ (ks_210 : List Int), ∀ (q_211 : Nat), ∀ (r_212 : List UInt8), ∀ (bd_213 : Bool), (TIn r_203 bd_204 v_202.toNat v_202.toNat bd_213 r_212 ks_210) → (ks_210.length = q_211) → (q_211 = v_202.toNat) → (r_212.length ≤ r_203.length) → ((v_9.fst + 1) * 40 ≤ 140737488355328) ∧ ∀ (z218 : List Plan), (z218 = List.take v_9.fst v_179.snd.snd.fst ++ List.take 1 (List.drop 0 [{ cycle := v_179.snd.snd.snd.fst, offset := v_179.snd.snd.snd.snd, splits := List.take q_211 (List.drop 0 ks_210) : Plan }])) → ∀ (n220 : Int), (n220 = IntKind.i64.wrap ((↑v_9.fst : Int) + (1 : Int))) → (inK .i64 n220) → ∃ (v' : Nat × Bool × List UInt8 × List Plan), (0 = 0) ∧ (v_9.fst + 1 = v'.fst) ∧ (oneV (8 : Int) b = oneV (8 : Int) b) ∧ (n220 = (↑v'.fst : Int)) ∧ (r_212 = v'.snd.snd.fst) ∧ (bd_213 = v'.snd.fst) ∧ ((0 : Int) = (0 : Int)) ∧ ((0 : Int) = (0 : Int)) ∧ ((0 : Int) = (0 : Int)) ∧ ((0 : Int) = (0 : Int)) ∧ ((0 : Int) = (0 : Int)) ∧ ((0 : Int) = (0 : Int)) ∧ (z218 = v'.snd.snd.snd) ∧ ((v'.fst ≤ (oneV (8 : Int) b).toNat) ∧ ((0 ≤ oneV (8 : Int) b) ∧ (oneV (8 : Int) b ≤ 8)) ∧ (b.length ≤ 1000000) ∧ (v'.snd.snd.fst.length ≤ b.length) ∧ (v'.snd.snd.snd.length = v'.fst) ∧ (PIn b v'.fst v'.snd.fst v'.snd.snd.fst v'.snd.snd.snd)) ∧ ((oneV (8 : Int) b).toNat - v'.fst < (oneV (8 : Int) b).toNat - v_9.fst)) ∧ (((0 : Int) ≤ (8 : Int)) ∧ ((8 : Int) ≤ (9223372036854775807 : Int))) ∧ (v_179.snd.fst.length ≤ 1000000) ∧ ∀ (v_223 : Int), ∀ (r_224 : List UInt8), ∀ (bd_225 : Bool), (v_223 = oneV (8 : Int) v_179.snd.fst) → (r_224 = oneR (8 : Int) v_179.snd.fst) → (bd_225 = (v_179.fst || oneB (8 : Int) v_179.snd.fst)) → (0 ≤ v_223 ∧ v_223 ≤ 8) → (r_224.length ≤ v_179.snd.fst.length) → ((0 ≤ v_223) ∧ (v_223 ≤ 8)) ∧ (r_224.length ≤ 1000000) ∧ ∀ (ks_231 : List Int), ∀ (q_232 : Nat), ∀ (r_233 : List UInt8), ∀ (bd_234 : Bool), (TIn r_224 bd_225 v_223.toNat v_223.toNat bd_234 r_233 ks_231) → (ks_231.length = q_232) → (q_232 = v_223.toNat) → (r_233.length ≤ r_224.length) → ((v_9.fst + 1) * 40 ≤ 140737488355328) ∧ ∀ (z239 : List Plan), (z239 = List.take v_9.fst v_179.snd.snd.fst ++ List.take 1 (List.drop 0 [{ cycle := v_179.snd.snd.snd.fst, offset := v_179.snd.snd.snd.snd, splits := List.take q_232 (List.drop 0 ks_231) : Plan }])) → ∀ (n241 : Int), (n241 = IntKind.i64.wrap ((↑v_9.fst : Int) + (1 : Int))) → (inK .i64 n241) → ∃ (v' : Nat × Bool × List UInt8 × List Plan), (0 = 0) ∧ (v_9.fst + 1 = v'.fst) ∧ (oneV (8 : Int) b = oneV (8 : Int) b) ∧ (n241 = (↑v'.fst : Int)) ∧ (r_233 = v'.snd.snd.fst) ∧ (bd_234 = v'.snd.fst) ∧ ((0 : Int) = (0 : Int)) ∧ ((0 : Int) = (0 : Int)) ∧ ((0 : Int) = (0 : Int)) ∧ ((0 : Int) = (0 : Int)) ∧ ((0 : Int) = (0 : Int)) ∧ ((0 : Int) = (0 : Int)) ∧ (z239 = v'.snd.snd.snd) ∧ ((v'.fst ≤ (oneV (8 : Int) b).toNat) ∧ ((0 ≤ oneV (8 : Int) b) ∧ (oneV (8 : Int) b ≤ 8)) ∧ (b.length ≤ 1000000) ∧ (v'.snd.snd.fst.length ≤ b.length) ∧ (v'.snd.snd.snd.length = v'.fst) ∧ (PIn b v'.fst v'.snd.fst v'.snd.snd.fst v'.snd.snd.snd)) ∧ ((oneV (8 : Int) b).toNat - v'.fst < (oneV (8 : Int) b).toNat - v_9.fst)) ((k (.row 10 1 0 v_9.fst) [some (.cells [.sl 0 v_9.snd.snd.fst, .bool v_9.snd.fst, .int .i64 0, .nilsl, .nilsl, .nilsl, .nilsl, .nilsl, .int .i64 0, .int .i64 0, .int .i64 0, .int .i64 0, .int .i64 0, .nilsl])] [.row 10 v_9.snd.snd.snd])) := by
 refine ⟨by first | omega | (dsimp only; omega), by assumption, ?_⟩
 intro v_1 r_2 bd_3 h1 h2 h3
 simp at h3
 intro ⟨a4, b4⟩ h5
 refine ⟨?_, ?_⟩
 ·
  refine ⟨((0 : Nat), bd_3, r_2, []), rfl, rfl, by show v_1 = oneV (8 : Int) b; assumption, by show (0 : Int) = (↑(0 : Nat) : Int); omega, rfl, rfl, rfl, rfl, rfl, rfl, rfl, rfl, rfl, by show (0 : Nat) ≤ (oneV (8 : Int) b).toNat; omega, by first | omega | (dsimp only; omega), by show b.length ≤ (1000000 : Nat); assumption, by show r_2.length ≤ b.length; assumption, rfl, ?_⟩
  exact pin_0 (by rw [Bool.false_or]; exact h3) h2
 intro v_9 h6
 refine brd (fun c7 => ?_) (fun c7 => ?_)
 ·
  refine ⟨?_, ?_⟩
  ·
   refine ⟨?_, ?_⟩
   ·
    refine ⟨by first | omega | (dsimp only; omega), by first | omega | (dsimp only; omega), ?_⟩
    intro v_11 r_12 bd_13 h8 h9 h10 ⟨a11, b11⟩ h12
    refine ⟨?_, ?_⟩
    ·
     refine ⟨by first | omega | (dsimp only; omega), by first | omega | (dsimp only; omega), ?_⟩
     intro v_19 r_20 bd_21 h13 h14 h15 ⟨a16, b16⟩ h17
     refine ⟨(bd_21, r_20, v_9.snd.snd.snd, v_11, v_19), rfl, rfl, rfl, rfl, rfl, rfl, rfl, rfl, rfl, rfl, rfl, rfl, rfl, rfl, rfl, by show v_9.fst < (oneV (8 : Int) b).toNat; omega, by first | omega | (dsimp only; omega), by show b.length ≤ (1000000 : Nat); assumption, by show r_20.length ≤ b.length; omega, by show v_9.snd.snd.snd.length = v_9.fst; omega, by exact ⟨by assumption, by assumption⟩, by exact ⟨by assumption, by assumption⟩, ?_⟩
     exact pa_mk h6.2.2.2.2.2 h8 h9 h10 h13 h14 h15
    refine ⟨by first | omega | (dsimp only; omega), by first | omega | (dsimp only; omega), ?_⟩
    intro v_27 r_28 bd_29 h18 h19 h20 ⟨a21, b21⟩ h22
    refine ⟨(bd_29, r_28, v_9.snd.snd.snd, v_11, v_27), rfl, rfl, rfl, rfl, rfl, rfl, rfl, rfl, rfl, rfl, rfl, rfl, rfl, rfl, rfl, by show v_9.fst < (oneV (8 : Int) b).toNat; omega, by first | omega | (dsimp only; omega), by show b.length ≤ (1000000 : Nat); assumption, by show r_28.length ≤ b.length; omega, by show v_9.snd.snd.snd.length = v_9.fst; omega, by exact ⟨by assumption, by assumption⟩, by exact ⟨by assumption, by assumption⟩, ?_⟩
    exact pa_mk h6.2.2.2.2.2 h8 h9 h10 h18 h19 h20
   refine ⟨?_, ?_⟩
   ·
    refine ⟨?_, ?_⟩
    ·
     refine ⟨by first | omega | (dsimp only; omega), by first | omega | (dsimp only; omega), ?_⟩
     intro v_35 r_36 bd_37 h23 h24 h25 ⟨a26, b26⟩ h27
     refine ⟨?_, ?_⟩
     ·
      refine ⟨by first | omega | (dsimp only; omega), by first | omega | (dsimp only; omega), ?_⟩
      intro v_43 r_44 bd_45 h28 h29 h30 ⟨a31, b31⟩ h32
      refine ⟨(bd_45, r_44, v_9.snd.snd.snd, v_35, v_43), rfl, rfl, rfl, rfl, rfl, rfl, rfl, rfl, rfl, rfl, rfl, rfl, rfl, rfl, rfl, by show v_9.fst < (oneV (8 : Int) b).toNat; omega, by first | omega | (dsimp only; omega), by show b.length ≤ (1000000 : Nat); assumption, by show r_44.length ≤ b.length; omega, by show v_9.snd.snd.snd.length = v_9.fst; omega, by exact ⟨by assumption, by assumption⟩, by exact ⟨by assumption, by assumption⟩, ?_⟩
      exact pa_mk h6.2.2.2.2.2 h23 h24 h25 h28 h29 h30
     refine ⟨by first | omega | (dsimp only; omega), by first | omega | (dsimp only; omega), ?_⟩
     intro v_51 r_52 bd_53 h33 h34 h35 ⟨a36, b36⟩ h37
     refine ⟨(bd_53, r_52, v_9.snd.snd.snd, v_35, v_51), rfl, rfl, rfl, rfl, rfl, rfl, rfl, rfl, rfl, rfl, rfl, rfl, rfl, rfl, rfl, by show v_9.fst < (oneV (8 : Int) b).toNat; omega, by first | omega | (dsimp only; omega), by show b.length ≤ (1000000 : Nat); assumption, by show r_52.length ≤ b.length; omega, by show v_9.snd.snd.snd.length = v_9.fst; omega, by exact ⟨by assumption, by assumption⟩, by exact ⟨by assumption, by assumption⟩, ?_⟩
     exact pa_mk h6.2.2.2.2.2 h23 h24 h25 h33 h34 h35
    refine ⟨?_, ?_⟩
    ·
     refine ⟨?_, ?_⟩
     ·
      refine ⟨by first | omega | (dsimp only; omega), by first | omega | (dsimp only; omega), ?_⟩
      intro v_59 r_60 bd_61 h38 h39 h40 ⟨a41, b41⟩ h42
      refine ⟨?_, ?_⟩
      ·
       refine ⟨by first | omega | (dsimp only; omega), by first | omega | (dsimp only; omega), ?_⟩
       intro v_67 r_68 bd_69 h43 h44 h45 ⟨a46, b46⟩ h47
       refine ⟨(bd_69, r_68, v_9.snd.snd.snd, v_59, v_67), rfl, rfl, rfl, rfl, rfl, rfl, rfl, rfl, rfl, rfl, rfl, rfl, rfl, rfl, rfl, by show v_9.fst < (oneV (8 : Int) b).toNat; omega, by first | omega | (dsimp only; omega), by show b.length ≤ (1000000 : Nat); assumption, by show r_68.length ≤ b.length; omega, by show v_9.snd.snd.snd.length = v_9.fst; omega, by exact ⟨by assumption, by assumption⟩, by exact ⟨by assumption, by assumption⟩, ?_⟩
       exact pa_mk h6.2.2.2.2.2 h38 h39 h40 h43 h44 h45
      refine ⟨by first | omega | (dsimp only; omega), by first | omega | (dsimp only; omega), ?_⟩
      intro v_75 r_76 bd_77 h48 h49 h50 ⟨a51, b51⟩ h52
      refine ⟨(bd_77, r_76, v_9.snd.snd.snd, v_59, v_75), rfl, rfl, rfl, rfl, rfl, rfl, rfl, rfl, rfl, rfl, rfl, rfl, rfl, rfl, rfl, by show v_9.fst < (oneV (8 : Int) b).toNat; omega, by first | omega | (dsimp only; omega), by show b.length ≤ (1000000 : Nat); assumption, by show r_76.length ≤ b.length; omega, by show v_9.snd.snd.snd.length = v_9.fst; omega, by exact ⟨by assumption, by assumption⟩, by exact ⟨by assumption, by assumption⟩, ?_⟩
      exact pa_mk h6.2.2.2.2.2 h38 h39 h40 h48 h49 h50
     refine ⟨by first | omega | (dsimp only; omega), by first | omega | (dsimp only; omega), ?_⟩
     intro v_83 r_84 bd_85 h53 h54 h55 ⟨a56, b56⟩ h57
     refine ⟨by first | omega | (dsimp only; omega), by first | omega | (dsimp only; omega), ?_⟩
     intro v_91 r_92 bd_93 h58 h59 h60 ⟨a61, b61⟩ h62
     refine ⟨(bd_93, r_92, v_9.snd.snd.snd, v_83, v_91), rfl, rfl, rfl, rfl, rfl, rfl, rfl, rfl, rfl, rfl, rfl, rfl, rfl, rfl, rfl, by show v_9.fst < (oneV (8 : Int) b).toNat; omega, by first | omega | (dsimp only; omega), by show b.length ≤ (1000000 : Nat); assumption, by show r_92.length ≤ b.length; omega, by show v_9.snd.snd.snd.length = v_9.fst; omega, by exact ⟨by assumption, by assumption⟩, by exact ⟨by assumption, by assumption⟩, ?_⟩
     exact pa_mk h6.2.2.2.2.2 h53 h54 h55 h58 h59 h60
    refine ⟨?_, ?_⟩
    ·
     refine ⟨by first | omega | (dsimp only; omega), by first | omega | (dsimp only; omega), ?_⟩
     intro v_99 r_100 bd_101 h63 h64 h65 ⟨a66, b66⟩ h67
     refine ⟨by first | omega | (dsimp only; omega), by first | omega | (dsimp only; omega), ?_⟩
     intro v_107 r_108 bd_109 h68 h69 h70 ⟨a71, b71⟩ h72
     refine ⟨(bd_109, r_108, v_9.snd.snd.snd, v_99, v_107), rfl, rfl, rfl, rfl, rfl, rfl, rfl, rfl, rfl, rfl, rfl, rfl, rfl, rfl, rfl, by show v_9.fst < (oneV (8 : Int) b).toNat; omega, by first | omega | (dsimp only; omega), by show b.length ≤ (1000000 : Nat); assumption, by show r_108.length ≤ b.length; omega, by show v_9.snd.snd.snd.length = v_9.fst; omega, by exact ⟨by assumption, by assumption⟩, by exact ⟨by assumption, by assumption⟩, ?_⟩
     exact pa_mk h6.2.2.2.2.2 h63 h64 h65 h68 h69 h70
    refine ⟨by first | omega | (dsimp only; omega), by first | omega | (dsimp only; omega), ?_⟩
    intro v_115 r_116 bd_117 h73 h74 h75 ⟨a76, b76⟩ h77
    refine ⟨by first | omega | (dsimp only; omega), by first | omega | (dsimp only; omega), ?_⟩
    intro v_123 r_124 bd_125 h78 h79 h80 ⟨a81, b81⟩ h82
    refine ⟨(bd_125, r_124, v_9.snd.snd.snd, v_115, v_123), rfl, rfl, rfl, rfl, rfl, rfl, rfl, rfl, rfl, rfl, rfl, rfl, rfl, rfl, rfl, by show v_9.fst < (oneV (8 : Int) b).toNat; omega, by first | omega | (dsimp only; omega), by show b.length ≤ (1000000 : Nat); assumption, by show r_124.length ≤ b.length; omega, by show v_9.snd.snd.snd.length = v_9.fst; omega, by exact ⟨by assumption, by assumption⟩, by exact ⟨by assumption, by assumption⟩, ?_⟩
    exact pa_mk h6.2.2.2.2.2 h73 h74 h75 h78 h79 h80
   refine ⟨?_, ?_⟩
   ·
    refine ⟨by first | omega | (dsimp only; omega), by first | omega | (dsimp only; omega), ?_⟩
    intro v_131 r_132 bd_133 h83 h84 h85 ⟨a86, b86⟩ h87
    refine ⟨by first | omega | (dsimp only; omega), by first | omega | (dsimp only; omega), ?_⟩
    intro v_139 r_140 bd_141 h88 h89 h90 ⟨a91, b91⟩ h92
    refine ⟨(bd_141, r_140, v_9.snd.snd.snd, v_131, v_139), rfl, rfl, rfl, rfl, rfl, rfl, rfl, rfl, rfl, rfl, rfl, rfl, rfl, rfl, rfl, by show v_9.fst < (oneV (8 : Int) b).toNat; omega, by first | omega | (dsimp only; omega), by show b.length ≤ (1000000 : Nat); assumption, by show r_140.length ≤ b.length; omega, by show v_9.snd.snd.snd.length = v_9.fst; omega, by exact ⟨by assumption, by assumption⟩, by exact ⟨by assumption, by assumption⟩, ?_⟩
    exact pa_mk h6.2.2.2.2.2 h83 h84 h85 h88 h89 h90
   refine ⟨?_, ?_⟩
   ·
    refine ⟨by first | omega | (dsimp only; omega), by first | omega | (dsimp only; omega), ?_⟩
    intro v_147 r_148 bd_149 h93 h94 h95 ⟨a96, b96⟩ h97
    refine ⟨by first | omega | (dsimp only; omega), by first | omega | (dsimp only; omega), ?_⟩
    intro v_155 r_156 bd_157 h98 h99 h100 ⟨a101, b101⟩ h102
    refine ⟨(bd_157, r_156, v_9.snd.snd.snd, v_147, v_155), rfl, rfl, rfl, rfl, rfl, rfl, rfl, rfl, rfl, rfl, rfl, rfl, rfl, rfl, rfl, by show v_9.fst < (oneV (8 : Int) b).toNat; omega, by first | omega | (dsimp only; omega), by show b.length ≤ (1000000 : Nat); assumption, by show r_156.length ≤ b.length; omega, by show v_9.snd.snd.snd.length = v_9.fst; omega, by exact ⟨by assumption, by assumption⟩, by exact ⟨by assumption, by assumption⟩, ?_⟩
    exact pa_mk h6.2.2.2.2.2 h93 h94 h95 h98 h99 h100
   refine ⟨by first | omega | (dsimp only; omega), by first | omega | (dsimp only; omega), ?_⟩
   intro v_163 r_164 bd_165 h103 h104 h105 ⟨a106, b106⟩ h107
   refine ⟨by first | omega | (dsimp only; omega), by first | omega | (dsimp only; omega), ?_⟩
   intro v_171 r_172 bd_173 h108 h109 h110 ⟨a111, b111⟩ h112
   refine ⟨(bd_173, r_172, v_9.snd.snd.snd, v_163, v_171), rfl, rfl, rfl, rfl, rfl, rfl, rfl, rfl, rfl, rfl, rfl, rfl, rfl, rfl, rfl, by show v_9.fst < (oneV (8 : Int) b).toNat; omega, by first | omega | (dsimp only; omega), by show b.length ≤ (1000000 : Nat); assumption, by show r_172.length ≤ b.length; omega, by show v_9.snd.snd.snd.length = v_9.fst; omega, by exact ⟨by assumption, by assumption⟩, by exact ⟨by assumption, by assumption⟩, ?_⟩
   exact pa_mk h6.2.2.2.2.2 h103 h104 h105 h108 h109 h110
  intro v_179 h113
  refine ⟨?_, ?_⟩
  ·
   refine ⟨?_, ?_⟩
   ·
    refine ⟨by first | omega | (dsimp only; omega), by first | omega | (dsimp only; omega), ?_⟩
    intro v_181 r_182 bd_183 h114 h115 h116 ⟨a117, b117⟩ h118
    refine ⟨by exact ⟨by assumption, by assumption⟩, by first | omega | (dsimp only; omega), ?_⟩
    intro ks_189 q_190 r_191 bd_192 h119 h120 h121 h122
    refine ⟨by first | omega | (dsimp only; omega), ?_⟩
    intro z197 qz197 n199 q199
    rw [IntKind.wrap_i64] at q199
    intro ⟨l199, u199⟩
    refine ⟨(v_9.fst + (1 : Nat), bd_192, r_191, z197), rfl, rfl, rfl, by show n199 = (↑(v_9.fst + (1 : Nat)) : Int); omega, rfl, rfl, rfl, rfl, rfl, rfl, rfl, rfl, rfl, ?_⟩
    refine ⟨?_, ?_⟩
    ·
     refine ⟨by show v_9.fst + (1 : Nat) ≤ (oneV (8 : Int) b).toNat; omega, by first | omega | (dsimp only; omega), by show b.length ≤ (1000000 : Nat); assumption, by show r_191.length ≤ b.length; omega, ?_⟩
     have h123 : z197.length = v_9.fst + (1 : Nat) := by
      exact (pl_app qz197 h113.2.2.2.2.1 h120).2
     refine ⟨h123, ?_⟩
     exact pa_step h113.2.2.2.2.2.2.2 rfl h113.1 h114 h115 h116 h119 (fun _ => rfl) (pl_app qz197 h113.2.2.2.2.1 h120).1
    exact by show (oneV (8 : Int) b).toNat - (v_9.fst + (1 : Nat)) < (oneV (8 : Int) b).toNat - v_9.fst; omega
   refine ⟨by first | omega | (dsimp only; omega), by first | omega | (dsimp only; omega), ?_⟩
   intro v_202 r_203 bd_204 h124 h125 h126 ⟨a127, b127⟩ h128
   refine ⟨by exact ⟨by assumption, by assumption⟩, by first | omega | (dsimp only; omega), ?_⟩
   intro ks_210 q_211 r_212 bd_213 h129 h130 h131 h132
   refine ⟨by first | omega | (dsimp only; omega), ?_⟩
   intro z218 qz218 n220 q220
   rw [IntKind.wrap_i64] at q220
   intro ⟨l220, u220⟩
   refine ⟨(v_9.fst + (1 : Nat), bd_213, r_212, z218), rfl, rfl, rfl, by show n220 = (↑(v_9.fst + (1 : Nat)) : Int); omega, rfl, rfl, rfl, rfl, rfl, rfl, rfl, rfl, rfl, ?_⟩
   refine ⟨?_, ?_⟩
   ·
    refine ⟨by show v_9.fst + (1 : Nat) ≤ (oneV (8 : Int) b).toNat; omega, by first | omega | (dsimp only; omega), by show b.length ≤ (1000000 : Nat); assumption, by show r_212.length ≤ b.length; omega, ?_⟩
    have h133 : z218.length = v_9.fst + (1 : Nat) := by
     exact (pl_app qz218 h113.2.2.2.2.1 h130).2
    refine ⟨h133, ?_⟩
    exact pa_step h113.2.2.2.2.2.2.2 rfl h113.1 h124 h125 h126 h129 (fun _ => rfl) (pl_app qz218 h113.2.2.2.2.1 h130).1
   exact by show (oneV (8 : Int) b).toNat - (v_9.fst + (1 : Nat)) < (oneV (8 : Int) b).toNat - v_9.fst; omega
  refine ⟨by first | omega | (dsimp only; omega), by first | omega | (dsimp only; omega), ?_⟩
  intro v_223 r_224 bd_225 h134 h135 h136 ⟨a137, b137⟩ h138
  refine ⟨by exact ⟨by assumption, by assumption⟩, by first | omega | (dsimp only; omega), ?_⟩
  intro ks_231 q_232 r_233 bd_234 h139 h140 h141 h142
  refine ⟨by first | omega | (dsimp only; omega), ?_⟩
  intro z239 qz239 n241 q241
  rw [IntKind.wrap_i64] at q241
  intro ⟨l241, u241⟩
  refine ⟨(v_9.fst + (1 : Nat), bd_234, r_233, z239), rfl, rfl, rfl, by show n241 = (↑(v_9.fst + (1 : Nat)) : Int); omega, rfl, rfl, rfl, rfl, rfl, rfl, rfl, rfl, rfl, ?_⟩
  refine ⟨?_, ?_⟩
  ·
   refine ⟨by show v_9.fst + (1 : Nat) ≤ (oneV (8 : Int) b).toNat; omega, by first | omega | (dsimp only; omega), by show b.length ≤ (1000000 : Nat); assumption, by show r_233.length ≤ b.length; omega, ?_⟩
   have h143 : z239.length = v_9.fst + (1 : Nat) := by
    exact (pl_app qz239 h113.2.2.2.2.1 h140).2
   refine ⟨h143, ?_⟩
   exact pa_step h113.2.2.2.2.2.2.2 rfl h113.1 h134 h135 h136 h139 (fun _ => rfl) (pl_app qz239 h113.2.2.2.2.1 h140).1
  exact by show (oneV (8 : Int) b).toNat - (v_9.fst + (1 : Nat)) < (oneV (8 : Int) b).toNat - v_9.fst; omega
 have e : v_9.fst = (oneV 8 b).toNat := by omega
 have t := h6.2.2.2.2.2
 rw [e] at t
 exact hk _ _ _ _ t h6.2.2.2.2.1 (by omega) h6.2.2.2.1
theorem plans_ok : Holds Try.prog 81 plansS := by
  refine fn_soundB (env := mkEnv K2) (tab_ok K2_ok) Try.func81 Try.call81 (fun args B k h => ?_) (by decide)
  unfold plansS at h
  dsimp only at h
  split at h
  · rename_i b
    exact ⟨by kernel_rfl, plansLoops b, plansCuts b, .cast (by kernel_rfl) (plans_vc b h.1 k h.2)⟩
  · exact h.elim
end Go.Proofs.Ytcdflgfhkohldaa
