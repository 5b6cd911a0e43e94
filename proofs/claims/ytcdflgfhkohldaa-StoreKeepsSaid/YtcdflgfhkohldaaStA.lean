import Derived.Test.YtcdflgfhkohldaaLkP
import Derived.Test.YtcdflgfhkohldaaBkA
namespace Go.St
open Go Go.Eng Go.Rw Go.Lk
set_option linter.unusedVariables false
set_option linter.unusedSimpArgs false
theorem take_step {α : Type} (l : List α) (d : α) {i : Nat} (h : i < l.length) : l.take (i + 1) = l.take i ++ [l.getD i d] := Go.Bk.take_step l d h
structure plOk (p : Plan) : Prop where
  a : 1 ≤ p.cycle ∧ p.cycle ≤ 1048576
  b : 0 ≤ p.offset ∧ p.offset ≤ p.cycle - 1
  c : 1 ≤ p.splits.length ∧ p.splits.length ≤ 8
  d : ∀ x, x ∈ p.splits → 0 ≤ x ∧ x ≤ 1048576
def planB (p : Plan) : List UInt8 := sms [p.cycle, p.offset, (p.splits.length : Int)] ++ sms p.splits
def plansB (l : List Plan) : List UInt8 := l.flatMap planB
noncomputable def wholeE (l : List Plan) : Int := open Classical in if 8 < l.length then 4 else if (∀ p, p ∈ l → plOk p) then 0 else 170
def wholeB (l : List Plan) : List UInt8 := smI (l.length : Int) ++ plansB l
noncomputable def wholeO (l : List Plan) : List UInt8 := if wholeE l = 0 then wholeB l else []
theorem wholeE_0 {l : List Plan} : wholeE l = 0 ↔ l.length ≤ 8 ∧ ∀ p, p ∈ l → plOk p := by
  unfold wholeE
  split
  · constructor
    · intro h; omega
    · intro h; omega
  · split
    · rename_i h1 h2; exact ⟨fun _ => ⟨by omega, h2⟩, fun _ => rfl⟩
    · rename_i h1 h2; exact ⟨fun h => by omega, fun h => absurd h.2 h2⟩
theorem wholeE_4 {l : List Plan} (h : 8 < l.length) : wholeE l = 4 := by unfold wholeE; rw [if_pos h]
theorem wholeE_170 {l : List Plan} (h : l.length ≤ 8) {i : Nat} (hi : i < l.length) (hp : ¬ plOk (l.getD i (dflt 10))) : wholeE l = 170 := by
  unfold wholeE
  rw [if_neg (by omega), if_neg]
  intro c
  refine hp (c _ ?_)
  rw [List.getD_eq_getElem?_getD, List.getElem?_eq_getElem hi]
  exact List.getElem_mem hi
theorem wholeE_cases (l : List Plan) : wholeE l = 0 ∨ wholeE l = 4 ∨ wholeE l = 170 := by
  unfold wholeE; split
  · exact .inr (.inl rfl)
  · split
    · exact .inl rfl
    · exact .inr (.inr rfl)
theorem plansB_step {l : List Plan} {i : Nat} (h : i < l.length) : plansB (l.take (i + 1)) = plansB (l.take i) ++ planB (l.getD i (dflt 10)) := by
  unfold plansB
  rw [take_step l (dflt 10) h, List.flatMap_append]
  simp
theorem planB_len (p : Plan) (h : p.splits.length ≤ 8) : (planB p).length ≤ 110 := by
  unfold planB
  have h1 := sms_len [p.cycle, p.offset, (p.splits.length : Int)]
  have h2 := sms_len p.splits
  rw [List.length_append]
  simp only [List.length_cons, List.length_nil] at h1
  omega
theorem plansB_len : ∀ (l : List Plan), (∀ p, p ∈ l → plOk p) → (plansB l).length ≤ 110 * l.length
  | [], _ => by simp [plansB]
  | p :: l, h => by
    have h1 := planB_len p (h p (by simp)).c.2
    have h2 := plansB_len l fun q hq => h q (by simp [hq])
    unfold plansB at h2 ⊢
    rw [List.flatMap_cons, List.length_append, List.length_cons]; omega
theorem wholeO_len (l : List Plan) : (wholeO l).length ≤ 1000 := by
  unfold wholeO
  split
  · rename_i h
    obtain ⟨h1, h2⟩ := wholeE_0.1 h
    have h3 := plansB_len l h2
    have h4 := smI_len (l.length : Int)
    unfold wholeB
    rw [List.length_append]; omega
  · simp
structure WO (l : List Plan) (i : Nat) (ys : List UInt8) : Prop where
  e : ys = smI (l.length : Int) ++ plansB (l.take i)
  p : ∀ j, j < i → plOk (l.getD j (dflt 10))
structure WJ (l : List Plan) (i j : Nat) (ys : List UInt8) : Prop where
  e : ys = smI (l.length : Int) ++ plansB (l.take i) ++ sms [(l.getD i (dflt 10)).cycle, (l.getD i (dflt 10)).offset, ((l.getD i (dflt 10)).splits.length : Int)] ++ sms ((l.getD i (dflt 10)).splits.take j)
  p : ∀ j, j < i → plOk (l.getD j (dflt 10))
  a : 1 ≤ (l.getD i (dflt 10)).cycle ∧ (l.getD i (dflt 10)).cycle ≤ 1048576
  b : 0 ≤ (l.getD i (dflt 10)).offset ∧ (l.getD i (dflt 10)).offset ≤ (l.getD i (dflt 10)).cycle - 1
  c : 1 ≤ (l.getD i (dflt 10)).splits.length ∧ (l.getD i (dflt 10)).splits.length ≤ 8
  d : ∀ x, x ∈ (l.getD i (dflt 10)).splits.take j → 0 ≤ x ∧ x ≤ 1048576
theorem plansB_le {l : List Plan} : ∀ {i : Nat}, i ≤ l.length → (∀ j, j < i → plOk (l.getD j (dflt 10))) → (plansB (l.take i)).length ≤ 110 * i
  | 0, _, _ => by simp [plansB]
  | i + 1, h, hp => by
    rw [plansB_step (by omega), List.length_append]
    have h1 := plansB_le (i := i) (by omega) fun j hj => hp j (by omega)
    have h2 := planB_len _ (hp i (by omega)).c.2
    omega
theorem WO.len {l : List Plan} {i : Nat} {ys : List UInt8} (h : WO l i ys) (hi : i ≤ l.length) (hl : l.length ≤ 8) : ys.length ≤ 900 := by
  have h1 := plansB_le hi h.p
  have h2 := smI_len (l.length : Int)
  rw [h.e, List.length_append]; omega
theorem WJ.len {l : List Plan} {i j : Nat} {ys : List UInt8} (h : WJ l i j ys) (hi : i < l.length) (hl : l.length ≤ 8) : ys.length ≤ 1100 := by
  have h1 := plansB_le (Nat.le_of_lt hi) h.p
  have h2 := smI_len (l.length : Int)
  have h3 := sms_len [(l.getD i (dflt 10)).cycle, (l.getD i (dflt 10)).offset, ((l.getD i (dflt 10)).splits.length : Int)]
  have h4 := sms_len ((l.getD i (dflt 10)).splits.take j)
  have h5 := h.c.2
  have h6 := List.length_take_le j (l.getD i (dflt 10)).splits
  have h7 := List.length_take_le' j (l.getD i (dflt 10)).splits
  rw [h.e, List.length_append, List.length_append, List.length_append]
  simp only [List.length_cons, List.length_nil] at h3
  omega
theorem wo_0 (l : List Plan) {ys : List UInt8} (h : ys = sms [(l.length : Int)]) : WO l 0 ys := ⟨by rw [h, sms_one]; simp [plansB], fun j hj => absurd hj (by omega)⟩
theorem wj_0 {l : List Plan} {i : Nat} {ys zs : List UInt8} {c o : Int} {n : Nat} (h : WO l i ys) (hc : c = (l.getD i (dflt 10)).cycle) (ho : o = (l.getD i (dflt 10)).offset) (hn : n = (l.getD i (dflt 10)).splits.length)
    (h1 : 1 ≤ c ∧ c ≤ 1048576) (h2 : 0 ≤ o ∧ o ≤ c - 1) (h3 : 1 ≤ n ∧ n ≤ 8) (hz : zs = ys ++ sms [c, o, (n : Int)]) : WJ l i 0 zs := by
  subst hc; subst ho; subst hn
  exact ⟨by rw [hz, h.e]; simp [sms], h.p, h1, h2, h3, fun x hx => by simp at hx⟩
theorem wj_step {l : List Plan} {i j : Nat} {ys zs : List UInt8} {x : Int} (h : WJ l i j ys) (hj : j < (l.getD i (dflt 10)).splits.length) (hx : x = (l.getD i (dflt 10)).splits.getD j 0) (hb : 0 ≤ x ∧ x ≤ 1048576) (hz : zs = ys ++ sms [x]) : WJ l i (j + 1) zs := by
  refine ⟨?_, h.p, h.a, h.b, h.c, fun y hy => ?_⟩
  · rw [hz, h.e, sms_step hj, ← hx, sms_one]; simp
  · rw [take_step _ 0 hj, ← hx] at hy
    rcases List.mem_append.1 hy with hy | hy
    · exact h.d y hy
    · rw [List.mem_singleton.1 hy]; exact hb
theorem wj_end {l : List Plan} {i j : Nat} {ys : List UInt8} (h : WJ l i j ys) (hi : i < l.length) (hj : j = (l.getD i (dflt 10)).splits.length) : WO l (i + 1) ys := by
  subst hj
  have hd := h.d
  have he := h.e
  rw [List.take_length] at hd he
  refine ⟨?_, fun k hk => ?_⟩
  · rw [he, plansB_step hi]; unfold planB; simp
  · by_cases c : k = i
    · subst c; exact ⟨h.a, h.b, h.c, hd⟩
    · exact h.p k (by omega)
theorem wo_end {l : List Plan} {i : Nat} {ys : List UInt8} (h : WO l i ys) (hi : i = l.length) (hl : l.length ≤ 8) : wholeE l = 0 ∧ ys = wholeO l := by
  subst hi
  have e : wholeE l = 0 := wholeE_0.2 ⟨hl, fun p hp => by
    obtain ⟨j, hj, rfl⟩ := List.getElem_of_mem hp
    have := h.p j hj
    rwa [List.getD_eq_getElem?_getD, List.getElem?_eq_getElem hj] at this⟩
  refine ⟨e, ?_⟩
  unfold wholeO wholeB
  rw [if_pos e, h.e, List.take_length]
theorem wj_bad {l : List Plan} {i j : Nat} {ys : List UInt8} {x : Int} (h : WJ l i j ys) (hi : i < l.length) (hl : l.length ≤ 8) (hj : j < (l.getD i (dflt 10)).splits.length) (hx : x = (l.getD i (dflt 10)).splits.getD j 0) (hb : ¬ (0 ≤ x ∧ x ≤ 1048576)) : wholeE l = 170 := by
  refine wholeE_170 hl hi fun c => hb ?_
  rw [hx, List.getD_eq_getElem?_getD, List.getElem?_eq_getElem hj]
  exact c.d _ (List.getElem_mem hj)
end Go.St
namespace Go.St
open Go Go.Eng Go.Rw Go.Lk
set_option linter.unusedVariables false
set_option linter.unusedSimpArgs false
def catL (l : List (ty 6)) (i : Nat) : List UInt8 := List.flatten (α := UInt8) (l.take i)
theorem catL_step {l : List (ty 6)} {i : Nat} (h : i < l.length) : catL l (i + 1) = catL l i ++ l.getD i (dflt 6) := by
  unfold catL
  rw [take_step l (dflt 6) h, List.flatten_append]
  have : ∀ x : List UInt8, List.flatten [x] = x := fun x => by simp
  rw [this]
theorem catL_all {l : List (ty 6)} {i : Nat} (h : i = l.length) : catL l i = List.flatten (α := UInt8) l := by
  unfold catL; rw [h, List.take_length]
theorem catL_le (l : List (ty 6)) (i : Nat) : (catL l i).length ≤ (List.flatten (α := UInt8) l).length := by
  unfold catL
  have : List.flatten (α := UInt8) l = List.flatten (α := UInt8) (l.take i) ++ List.flatten (α := UInt8) (l.drop i) := by rw [← List.flatten_append, List.take_append_drop]
  rw [this, List.length_append]; omega
theorem catL_elem {l : List (ty 6)} {i : Nat} (h : i < l.length) : (catL l i).length + (l.getD i (dflt 6)).length ≤ (List.flatten (α := UInt8) l).length := by
  have := catL_le l (i + 1)
  rw [catL_step h, List.length_append] at this; exact this
structure JO (l : List (ty 6)) (i : Nat) (xs : List UInt8) : Prop where
  e : xs.take (catL l i).length = catL l i
theorem jo_step {l : List (ty 6)} {ys z : List UInt8} {i p : Nat} (hi : i < l.length) (hp : p = (catL l i).length) (hy : ys.length = (List.flatten (α := UInt8) l).length) (hj : JO l i ys)
    (hz : z = ys.take (0 + p) ++ List.take ((l.getD i (dflt 6)).length.min ((List.flatten (α := UInt8) l).length - p)) (l.getD i (dflt 6)) ++ ys.drop (0 + p + (l.getD i (dflt 6)).length.min ((List.flatten (α := UInt8) l).length - p))) :
    (l.getD i (dflt 6)).length.min ((List.flatten (α := UInt8) l).length - p) = (l.getD i (dflt 6)).length ∧ z.length = (List.flatten (α := UInt8) l).length ∧ JO l (i + 1) z := by
  have he := catL_elem hi
  have hm : (l.getD i (dflt 6)).length.min ((List.flatten (α := UInt8) l).length - p) = (l.getD i (dflt 6)).length := Nat.min_eq_left (by omega)
  rw [hm, Nat.zero_add, List.take_length] at hz
  have hjl := hj.e
  refine ⟨hm, ?_, ⟨?_⟩⟩
  · rw [hz, List.length_append, List.length_append, List.length_take, List.length_drop]; omega
  · rw [catL_step hi, List.length_append, hz, ← hp]
    rw [← hp] at hjl
    rw [hjl]
    rw [show p + (l.getD i (dflt 6)).length = (catL l i ++ l.getD i (dflt 6)).length by rw [List.length_append]; omega, List.take_left]
theorem jo_first {l : List (ty 6)} {xs z : List UInt8} {N : Nat} (hl : 0 < l.length) (hN : N = (List.flatten (α := UInt8) l).length) (hx : xs.length = N)
    (hz : z = xs.take 0 ++ List.take ((l.getD 0 (dflt 6)).length.min N) (l.getD 0 (dflt 6)) ++ xs.drop (0 + (l.getD 0 (dflt 6)).length.min N)) :
    (l.getD 0 (dflt 6)).length.min N = (catL l 1).length ∧ z.length = (List.flatten (α := UInt8) l).length ∧ JO l 1 z := by
  subst hN
  have h0 : catL l 0 = [] := by simp [catL]
  have := jo_step (i := 0) (p := 0) hl (by rw [h0]; rfl) hx ⟨by rw [h0]; rfl⟩ (z := z) (by simpa using hz)
  obtain ⟨a, b, c⟩ := this
  refine ⟨?_, b, c⟩
  rw [catL_step hl, h0, List.nil_append]
  exact a
theorem jo_all {l : List (ty 6)} {xs : List UInt8} {i : Nat} (h : JO l i xs) (hi : i = l.length) (hx : xs.length = (List.flatten (α := UInt8) l).length) : xs = List.flatten (α := UInt8) l := by
  have := h.e
  rw [catL_all hi, List.take_of_length_le (by omega)] at this
  exact this
theorem get_drop (l : List (ty 6)) (i : Nat) : (l.drop 1).getD i (dflt 6) = l.getD (i + 1) (dflt 6) := by
  rw [List.getD_eq_getElem?_getD, List.getD_eq_getElem?_getD, List.getElem?_drop, Nat.add_comm]
end Go.St
