import Derived.Test.YtcdflgfhkohldaaEngW
namespace Go.Lk
open Go Go.Eng
set_option linter.unusedVariables false
set_option linter.unusedSimpArgs false
def old (s : Bool × Int) (m : Msg) : Bool := s.1 && decide ((m.seq.toNat : Int) ≤ s.2)
def stp (s : Bool × Int) (m : Msg) : Bool × Int := if old s m then s else (true, (m.seq.toNat : Int))
def stk (s : Bool × Int) (l : List Msg) : Bool × Int := l.foldl stp s
def tk : (Bool × Int) → List Msg → List Msg
  | _, [] => []
  | s, m :: r => if old s m then tk s r else m :: tk (stp s m) r
def bigB (l : List Msg) : Bool := l.any fun m => decide (512 < m.body.length)
def lkBad (any : Bool) (last age : Int) : Prop := age < 0 ∨ 1048576 < age ∨ (any = false ∧ last ≠ 0)
instance (any last age) : Decidable (lkBad any last age) := by unfold lkBad; infer_instance
def lE (any : Bool) (last age : Int) (l : List Msg) : Int := if lkBad any last age then 8 else if 1024 < l.length then 4 else if bigB l then 3 else 0
def ageN (age : Int) (q : Nat) : Int := if 0 < q then 0 else min (age + 1) 1048576
theorem take_step {α : Type} (l : List α) (d : α) {i : Nat} (h : i < l.length) : l.take (i + 1) = l.take i ++ [l.getD i d] := by
  rw [List.take_add_one, List.getElem?_eq_getElem h, List.getD_eq_getElem?_getD, List.getElem?_eq_getElem h]; rfl
theorem stk_app (s : Bool × Int) (a b : List Msg) : stk s (a ++ b) = stk (stk s a) b := by
  unfold stk; rw [List.foldl_append]
theorem tk_app : ∀ (s : Bool × Int) (a b : List Msg), tk s (a ++ b) = tk s a ++ tk (stk s a) b
  | s, [], b => rfl
  | s, m :: r, b => by
    have e : stk s (m :: r) = stk (stp s m) r := rfl
    rw [List.cons_append, tk, tk, e]
    by_cases h : old s m = true
    · have e2 : stp s m = s := by unfold stp; rw [if_pos h]
      rw [if_pos h, if_pos h, tk_app s r b, e2]
    · rw [if_neg h, if_neg h, tk_app (stp s m) r b, List.cons_append]
theorem stk_succ (s : Bool × Int) (l : List Msg) {i : Int} (h0 : 0 ≤ i) (h : i < l.length) : stk s (l.take (i + 1).toNat) = stp (stk s (l.take i.toNat)) (l.getD i.toNat (dflt 8)) := by
  rw [show (i + 1).toNat = i.toNat + 1 by omega, take_step l (dflt 8) (by omega), stk_app]; rfl
theorem tk_succ (s : Bool × Int) (l : List Msg) {i : Int} (h0 : 0 ≤ i) (h : i < l.length) : tk s (l.take (i + 1).toNat) = tk s (l.take i.toNat) ++ if old (stk s (l.take i.toNat)) (l.getD i.toNat (dflt 8)) then [] else [l.getD i.toNat (dflt 8)] := by
  rw [show (i + 1).toNat = i.toNat + 1 by omega, take_step l (dflt 8) (by omega), tk_app]
  congr 1
theorem tk_length : ∀ (s : Bool × Int) (l : List Msg), (tk s l).length ≤ l.length
  | s, [] => Nat.le_refl _
  | s, m :: r => by
    rw [tk]
    split
    · have := tk_length s r; simp only [List.length_cons]; omega
    · have := tk_length (stp s m) r; simp only [List.length_cons]; omega
theorem bigB_take (l : List Msg) (h : ∀ j, j < l.length → (l.getD j (dflt 8)).body.length ≤ 512) : bigB l = false := by
  unfold bigB
  rw [List.any_eq_false]
  intro m hm
  obtain ⟨j, hj, rfl⟩ := List.mem_iff_getElem.1 hm
  have := h j hj
  rw [List.getD_eq_getElem?_getD, List.getElem?_eq_getElem hj] at this
  simpa using this
theorem bigB_at (l : List Msg) {j : Nat} (hj : j < l.length) (h : 512 < (l.getD j (dflt 8)).body.length) : bigB l = true := by
  unfold bigB
  rw [List.any_eq_true]
  refine ⟨l[j], List.getElem_mem hj, ?_⟩
  rw [List.getD_eq_getElem?_getD, List.getElem?_eq_getElem hj] at h
  simpa using h
theorem bigB_none {l : List Msg} (h : bigB l = false) {j : Nat} (hj : j < l.length) : (l.getD j (dflt 8)).body.length ≤ 512 := by
  rcases Nat.lt_or_ge 512 (l.getD j (dflt 8)).body.length with c | c
  · rw [bigB_at l hj c] at h; cases h
  · exact c
end Go.Lk
namespace Go.Lk
open Go Go.Eng
set_option linter.unusedVariables false
set_option linter.unusedSimpArgs false
theorem old_t {a : Bool} {l : Int} {m : Msg} (h : a = true) (h2 : (m.seq.toNat : Int) ≤ l) : old (a, l) m = true := by simp [old, h, h2]
theorem old_f {a : Bool} {l : Int} {m : Msg} (h : a = true → l < (m.seq.toNat : Int)) : ¬ old (a, l) m = true := by
  cases a
  · simp [old]
  · have := h rfl
    simp only [old, Bool.true_and, decide_eq_true_eq]; omega
theorem mk_msg (m : Msg) : (⟨UInt8.ofNat (m.kind.toNat : Int).toNat, UInt32.ofNat (m.seq.toNat : Int).toNat, List.take m.body.length (List.drop 0 m.body)⟩ : Msg) = m := by
  cases m; simp
theorem lE_1 {an : Bool} {la ag e : Int} {l : List Msg} (h : e = if lkBad an la ag then 8 else 0) (c : e ≠ 0) : e = lE an la ag l := by
  unfold lE
  by_cases b : lkBad an la ag
  · rw [if_pos b] at h ⊢; exact h
  · rw [if_neg b] at h; exact absurd h c
theorem nb {an : Bool} {la ag e : Int} (h : e = if lkBad an la ag then 8 else 0) (c : e = 0) : ¬ lkBad an la ag := fun b => by
  rw [if_pos b] at h; omega
theorem nb_age {an : Bool} {la ag : Int} (h : ¬ lkBad an la ag) : 0 ≤ ag ∧ ag ≤ 1048576 := by
  unfold lkBad at h
  constructor
  · exact Int.not_lt.1 fun c => h (.inl c)
  · exact Int.not_lt.1 fun c => h (.inr (.inl c))
theorem lE_4 {an : Bool} {la ag : Int} {l : List Msg} (h : ¬ lkBad an la ag) (c : 1024 < l.length) : 4 = lE an la ag l := by
  unfold lE; rw [if_neg h, if_pos c]
theorem lE_3 {an : Bool} {la ag : Int} {l : List Msg} (h : ¬ lkBad an la ag) (c : ¬ 1024 < l.length) (b : bigB l = true) : 3 = lE an la ag l := by
  unfold lE; rw [if_neg h, if_neg c, if_pos b]
theorem lE_0 {an : Bool} {la ag : Int} {l : List Msg} (h : ¬ lkBad an la ag) (c : ¬ 1024 < l.length) (b : bigB l = false) : lE an la ag l = 0 := by
  unfold lE; rw [if_neg h, if_neg c, b, if_neg (by decide)]
theorem chk {an : Bool} {la ag : Int} (h : (ag < 0 ∨ 1048576 < ag) ∨ an = false ∧ ¬ la = 0) : lkBad an la ag := by
  unfold lkBad
  rcases h with (h | h) | h
  · exact .inl h
  · exact .inr (.inl h)
  · exact .inr (.inr h)
theorem chk0 {an : Bool} {la ag : Int} (h : (0 ≤ ag ∧ ag ≤ 1048576) ∧ (an = false → la = 0)) : ¬ lkBad an la ag := by
  rintro (c | c | c)
  · omega
  · omega
  · exact c.2 (h.2 c.1)
end Go.Lk
namespace Go.Lk
open Go Go.Eng
set_option linter.unusedVariables false
set_option linter.unusedSimpArgs false
def msg (x : UInt32) : Msg := ⟨2, x, []⟩
def fE (an : Bool) (la ag w : Int) : Int := if lkBad an la ag then 8 else if w < 1 ∨ 1048576 < w then 2 else 0
theorem fE_1 {an : Bool} {la ag w e : Int} (h : e = if lkBad an la ag then 8 else 0) (c : e ≠ 0) : e = fE an la ag w := by
  unfold fE
  by_cases b : lkBad an la ag
  · rw [if_pos b] at h ⊢; exact h
  · rw [if_neg b] at h; exact absurd h c
theorem fE_2 {an : Bool} {la ag w : Int} (h : ¬ lkBad an la ag) (c : w < 1 ∨ 1048576 < w) : 2 = fE an la ag w := by
  unfold fE; rw [if_neg h, if_pos c]
theorem fE_0 {an : Bool} {la ag w : Int} (h : ¬ lkBad an la ag) (c : ¬ (w < 1 ∨ 1048576 < w)) : fE an la ag w = 0 := by
  unfold fE; rw [if_neg h, if_neg c]
def st (f i : Int) : Bool × Int := if i = 0 then (false, 0) else (true, f + i - 1)
structure Pend (f i t : Int) (N : List Msg) : Prop where
  c1 : stk (st f t) N = st f i
  c2 : (tk (st f t) N).map (fun m => (m.seq.toNat : Int)) = (List.range (i - t).toNat).map (fun (j : Nat) => f + t + (j : Int))
  c3 : bigB N = false
  c4 : (N.length : Int) ≤ 3 * i
theorem pend_nil {f t : Int} (h : 0 ≤ t) : Pend f t t [] := ⟨rfl, by rw [show t - t = 0 by omega]; rfl, rfl, by simp; omega⟩
theorem seq_msg {x : Int} (h0 : 0 ≤ x) (h1 : x ≤ 4294967295) : ((msg (UInt32.ofNat x.toNat)).seq.toNat : Int) = x := by
  show ((UInt32.ofNat x.toNat).toNat : Int) = x
  rw [UInt32.toNat_ofNat', Nat.mod_eq_of_lt (by show x.toNat < 4294967296; omega)]; omega
theorem bigB_app (a b : List Msg) : bigB (a ++ b) = (bigB a || bigB b) := by unfold bigB; rw [List.any_append]
theorem stk_one (s : Bool × Int) (m : Msg) : stk s [m] = stp s m := rfl
theorem tk_one (s : Bool × Int) (m : Msg) : tk s [m] = if old s m then [] else [m] := rfl
theorem old_st {f i x : Int} (hf : 0 ≤ f) (hi : 0 ≤ i) (h : x ≤ 4294967295) (h0 : f ≤ x) : old (st f i) (msg (UInt32.ofNat x.toNat)) = decide (x < f + i) := by
  have e := seq_msg (x := x) (by omega) h
  unfold st
  by_cases c : i = 0
  · rw [if_pos c, decide_eq_false (by omega)]; rfl
  · rw [if_neg c]
    unfold old
    rw [Bool.true_and, e]
    exact decide_eq_decide.2 ⟨fun a => by omega, fun a => by omega⟩
theorem pend_one {f i t : Int} {N : List Msg} (h : Pend f i t N) (hf : 0 ≤ f) (ht : 0 ≤ t) (hti : t ≤ i) (hb : f + i ≤ 4294967295) : Pend f (i + 1) t (N ++ [msg (UInt32.ofNat (f + i).toNat)]) := by
  obtain ⟨h1, h2, h3, h4⟩ := h
  have o : old (st f i) (msg (UInt32.ofNat (f + i).toNat)) = false := by rw [old_st hf (by omega) hb (by omega)]; exact decide_eq_false (by omega)
  refine ⟨?_, ?_, ?_, ?_⟩
  · rw [stk_app, h1, stk_one]
    unfold stp
    rw [o, if_neg (by decide), seq_msg (by omega) hb]
    unfold st
    rw [if_neg (by omega), show f + (i + 1) - 1 = f + i by omega]
  · rw [tk_app, h1, tk_one, o, if_neg (by decide), List.map_append, h2, show (i + 1 - t).toNat = (i - t).toNat + 1 by omega, List.range_succ, List.map_append, List.map_singleton, List.map_singleton, seq_msg (by omega) hb]
    congr 2
    omega
  · rw [bigB_app, h3]; rfl
  · rw [List.length_append, List.length_singleton]; omega
theorem pend_three {f i t : Int} {N : List Msg} (h : Pend f i t N) (hf : 0 ≤ f) (ht : 0 ≤ t) (hti : t ≤ i) (hb : f + i ≤ 4294967295) : Pend f (i + 1) t (N ++ [msg (UInt32.ofNat (f + i).toNat)] ++ [msg (UInt32.ofNat (f + i).toNat), msg (UInt32.ofNat f.toNat)]) := by
  have p := pend_one h hf ht hti hb
  obtain ⟨h1, h2, h3, h4⟩ := p
  have o1 : old (st f (i + 1)) (msg (UInt32.ofNat (f + i).toNat)) = true := by rw [old_st hf (by omega) hb (by omega)]; exact decide_eq_true (by omega)
  have o2 : old (st f (i + 1)) (msg (UInt32.ofNat f.toNat)) = true := by rw [old_st hf (by omega) (by omega) (by omega)]; exact decide_eq_true (by omega)
  have s2 : stk (st f (i + 1)) [msg (UInt32.ofNat (f + i).toNat), msg (UInt32.ofNat f.toNat)] = st f (i + 1) := by
    show stp (stp _ _) _ = _
    unfold stp
    rw [o1, if_pos rfl, o2, if_pos rfl]
  refine ⟨?_, ?_, ?_, ?_⟩
  · rw [stk_app, h1, s2]
  · rw [tk_app, h1, tk, o1, if_pos rfl, tk, o2, if_pos rfl, tk, List.append_nil, h2]
  · rw [bigB_app, h3]; rfl
  · have := h.c4
    simp only [List.length_append, List.length_cons, List.length_nil]; omega
theorem st_bad {f t a : Int} {b : Bool} {l : Int} (h : (b, l) = st f t) (ha : 0 ≤ a ∧ a ≤ 1048576) : ¬ lkBad b l a := by
  rintro (c | c | c)
  · omega
  · omega
  · unfold st at h
    split at h
    · cases h; exact c.2 rfl
    · cases h; cases c.1
theorem pend_E {f i t a : Int} {b : Bool} {l : Int} {N : List Msg} (p : Pend f i t N) (h : (b, l) = st f t) (ha : 0 ≤ a ∧ a ≤ 1048576) (hi : i ≤ 100) : lE b l a N = 0 := by
  refine lE_0 (st_bad h ha) ?_ p.c3
  have := p.c4
  omega
theorem pend_len {f i t : Int} {b : Bool} {l : Int} {N : List Msg} (p : Pend f i t N) (h : (b, l) = st f t) : (tk (b, l) N).length = (i - t).toNat := by
  have := congrArg List.length p.c2
  rw [h]
  simpa using this
theorem pend_at {f i t : Int} {b : Bool} {l : Int} {N : List Msg} (p : Pend f i t N) (h : (b, l) = st f t) {j : Nat} (hj : j < (i - t).toNat) : (((tk (b, l) N).getD j (dflt 8)).seq.toNat : Int) = f + t + j := by
  have e := congrArg (fun l => l[j]?) p.c2
  rw [h]
  have hl := pend_len p h
  rw [h] at hl
  rw [List.getElem?_map, List.getElem?_map, List.getElem?_range hj, List.getElem?_eq_getElem (by omega)] at e
  rw [List.getD_eq_getElem?_getD, List.getElem?_eq_getElem (by omega)]
  simpa using e
theorem ageN_in {a : Int} {n : Nat} (h : 0 ≤ a ∧ a ≤ 1048576) : 0 ≤ ageN a n ∧ ageN a n ≤ 1048576 := by
  unfold ageN; split <;> omega
end Go.Lk
namespace Go.Lk
open Go Go.Eng
set_option linter.unusedVariables false
set_option linter.unusedSimpArgs false
theorem pend_age {n : Nat} {a a' : Int} (h : 0 ≤ a ∧ a ≤ 1048576) (e : a' = ageN a n) : 0 ≤ a' ∧ a' ≤ 1048576 := by
  rw [e]; exact ageN_in h
theorem u32_wrap {x : Int} (h0 : 0 ≤ x) (h1 : x ≤ 4294967295) : IntKind.u32.wrap x = x := by
  show (x % 4294967296) = x
  omega
end Go.Lk
namespace Go.Lk
open Go Go.Eng
set_option linter.unusedVariables false
set_option linter.unusedSimpArgs false
theorem u32_nat {x : Int} (h0 : 0 ≤ x) (h1 : x ≤ 4294967295) : ((UInt32.ofNat x.toNat).toNat : Int) = x := by
  rw [UInt32.toNat_ofNat', Nat.mod_eq_of_lt (by show x.toNat < 4294967296; omega)]; omega
theorem one_new {s : Bool × Int} {m : Msg} {ys : List Msg} {n : Nat} (h : ys = tk s [m]) (hl : ys.length = n) (hn : n ≠ 0) : n = 1 ∧ stk s [m] = (true, (m.seq.toNat : Int)) := by
  rw [tk_one] at h
  rw [stk_one]
  unfold stp
  by_cases o : old s m = true
  · rw [if_pos o] at h; rw [h] at hl; exact absurd hl.symm hn
  · rw [if_neg o] at h ⊢; rw [h] at hl; exact ⟨hl.symm, rfl⟩
theorem one_old {m : Msg} {l : Int} (h : (m.seq.toNat : Int) = l) : tk (true, l) [m] = [] ∧ stk (true, l) [m] = (true, l) := by
  have o : old (true, l) m = true := old_t rfl (by omega)
  rw [tk_one, stk_one]
  unfold stp
  rw [if_pos o, if_pos o]
  exact ⟨rfl, rfl⟩
theorem nbt {l a : Int} (ha : 0 ≤ a ∧ a ≤ 1048576) : ¬ lkBad true l a := by
  rintro (c | c | c)
  · omega
  · omega
  · cases c.1
theorem fE_ne {l a w e : Int} (h : e = fE true l a w) (he : e ≠ 0) (ha : 0 ≤ a ∧ a ≤ 1048576) : w < 1 ∨ 1048576 < w := by
  unfold fE at h
  rw [if_neg (nbt ha)] at h
  by_cases c : w < 1 ∨ 1048576 < w
  · exact c
  · rw [if_neg c] at h; exact absurd h he
theorem big1 {m : Msg} (h : m.body.length ≤ 512) : bigB [m] = false := by simp [bigB, h]
end Go.Lk
namespace Go.Lk
open Go Go.Eng
set_option linter.unusedVariables false
set_option linter.unusedSimpArgs false
theorem tk_at {s : Bool × Int} {l : List Msg} {k : Nat} (hk : k < l.length) (h : ¬ old (stk s (l.take k)) (l.getD k (dflt 8)) = true) : (tk s (l.take k)).length < (tk s l).length ∧ (tk s l).getD (tk s (l.take k)).length (dflt 8) = l.getD k (dflt 8) := by
  have e : l = l.take k ++ (l.getD k (dflt 8) :: l.drop (k + 1)) := by
    rw [List.getD_eq_getElem?_getD, List.getElem?_eq_getElem hk, Option.getD_some, ← List.drop_eq_getElem_cons hk, List.take_append_drop]
  have t : tk s l = tk s (l.take k) ++ l.getD k (dflt 8) :: tk (stp (stk s (l.take k)) (l.getD k (dflt 8))) (l.drop (k + 1)) := by
    conv => lhs; rw [e, tk_app, tk, if_neg h]
  refine ⟨by rw [t, List.length_append, List.length_cons]; omega, ?_⟩
  rw [t]
  simp [List.getD_eq_getElem?_getD]
theorem age0 {a : Int} {n : Nat} (h : 0 ≤ a) : (ageN a n = 0) ↔ 0 < n := by
  unfold ageN
  split <;> omega
theorem stk_any {s : Bool × Int} : ∀ {l : List Msg} {b : Bool} {x : Int}, (b, x) = stk s l → inK .u32 s.2 → inK .u32 x
  | [], b, x, h, hi => by
    have : (b, x) = s := h
    rw [← this] at hi; exact hi
  | m :: r, b, x, h, hi => by
    refine stk_any (s := stp s m) (l := r) h ?_
    unfold stp
    split
    · exact hi
    · show 0 ≤ (m.seq.toNat : Int) ∧ (m.seq.toNat : Int) ≤ 4294967295
      have := m.seq.toNat_lt
      omega
theorem lE_nb {an : Bool} {la ag : Int} {l : List Msg} (h : lE an la ag l = 0) : 0 ≤ ag ∧ ag ≤ 1048576 ∧ l.length ≤ 1024 ∧ bigB l = false := by
  unfold lE at h
  by_cases b : lkBad an la ag
  · rw [if_pos b] at h; cases h
  · rw [if_neg b] at h
    have := nb_age b
    by_cases c : 1024 < l.length
    · rw [if_pos c] at h; cases h
    · rw [if_neg c] at h
      cases d : bigB l with
      | true => rw [d, if_pos rfl] at h; cases h
      | false => exact ⟨this.1, this.2, by omega, rfl⟩
end Go.Lk
