import Derived.Test.YtkcnpemaocdnkaaWrA
namespace Go.Wr
open Go
set_option linter.unusedVariables false
set_option linter.unusedSimpArgs false
/-- What a link holds behind so many ticks. -/
def holdN (l : List (List UInt8)) (w : List UInt8) : Nat → List UInt8
  | 0 => []
  | i + 1 => if (w.getD i 0).toNat = 3 then l.getD i [] else []
def errN (l : List (List UInt8)) (w : List UInt8) (a : List Int) (i : Nat) : Int := wE (holdN l w i).length (l.getD i []).length ((w.getD i 0).toNat : Int) (a.getD i 0)
def firstE (l : List (List UInt8)) (w : List UInt8) (a : List Int) : Nat → Int
  | 0 => 0
  | i + 1 => if firstE l w a i = 0 then errN l w a i else firstE l w a i
def outN (l : List (List UInt8)) (w : List UInt8) (a : List Int) (i : Nat) : List UInt8 := holdN l w i ++ wOut (l.getD i []) ((w.getD i 0).toNat : Int) (a.getD i 0)
def outs (l : List (List UInt8)) (w : List UInt8) (a : List Int) (k : Nat) : List (List UInt8) := (List.range k).map (outN l w a)
def rows (l : List (List UInt8)) (w : List UInt8) (a : List Int) (k : Nat) : List (List UInt8) := outs l w a k ++ List.replicate (l.length - k) []
def rE (l : List (List UInt8)) (w : List UInt8) (a : List Int) : Int := if 4096 < l.length ∨ w.length ≠ l.length ∨ a.length ≠ l.length then 4 else firstE l w a l.length
theorem outs_length (l w a k) : (outs l w a k).length = k := by simp [outs]
theorem outs_succ (l w a k) : outs l w a (k + 1) = outs l w a k ++ [outN l w a k] := by unfold outs; rw [List.range_succ, List.map_append]; rfl
theorem rows_length {l w a k} (h : k ≤ l.length) : (rows l w a k).length = l.length := by
  unfold rows; rw [List.length_append, outs_length, List.length_replicate]; omega
theorem rows_zero (l w a) : rows l w a 0 = List.replicate l.length [] := by simp [rows, outs]
theorem rows_all (l w a) : rows l w a l.length = outs l w a l.length := by simp [rows]
theorem rows_set {l w a k} (h : k < l.length) : (rows l w a k).set k (outN l w a k) = rows l w a (k + 1) := by
  unfold rows
  rw [List.set_append_right _ _ (by rw [outs_length]; omega), outs_length, Nat.sub_self, show l.length - k = (l.length - (k + 1)) + 1 by omega, List.replicate_succ, List.set_cons_zero, outs_succ, List.append_assoc]
  rfl
theorem firstE_zero {l w a} : ∀ {k}, firstE l w a k = 0 → ∀ j, j < k → errN l w a j = 0
  | 0, _, j, hj => by omega
  | k + 1, h, j, hj => by
    unfold firstE at h
    by_cases c : firstE l w a k = 0
    · rw [if_pos c] at h
      by_cases e : j = k
      · subst e; exact h
      · exact firstE_zero c j (by omega)
    · rw [if_neg c] at h; exact absurd h c
theorem firstE_ok {l w a} : ∀ {k}, (∀ j, j < k → errN l w a j = 0) → firstE l w a k = 0
  | 0, _ => rfl
  | k + 1, h => by
    unfold firstE
    rw [if_pos (firstE_ok fun j hj => h j (by omega))]
    exact h k (by omega)
theorem firstE_stop {l w a} {e : Int} {k : Nat} (h : firstE l w a k = 0) (he : e = errN l w a k) (h0 : e ≠ 0) : ∀ {n}, k < n → firstE l w a n = e
  | 0, hn => by omega
  | n + 1, hn => by
    unfold firstE
    by_cases c : k = n
    · subst c; rw [if_pos h, he]
    · rw [firstE_stop h he h0 (n := n) (by omega), if_neg h0]
theorem rE_run {l w a} {e : Int} {k : Nat} (c1 : ¬ 4096 < l.length) (c2 : w.length = l.length) (c3 : a.length = l.length) (h : firstE l w a k = 0) (he : e = errN l w a k) (h0 : e ≠ 0) (hn : k < l.length) : e = rE l w a := by
  unfold rE
  rw [if_neg (by omega), firstE_stop h he h0 hn]
theorem rE_zero {l w a} (c1 : ¬ 4096 < l.length) (c2 : w.length = l.length) (c3 : a.length = l.length) (h : firstE l w a l.length = 0) : rE l w a = 0 := by
  unfold rE
  rw [if_neg (by omega), h]
theorem rE_none {l w a} (h : rE l w a = 0) : ¬ 4096 < l.length ∧ w.length = l.length ∧ a.length = l.length ∧ firstE l w a l.length = 0 := by
  unfold rE at h
  split at h
  · cases h
  · rename_i c
    exact ⟨by omega, by omega, by omega, h⟩
theorem wE_err {h i : Nat} {what p e : Int} (he : e = wE h i what p) : e = 0 ∨ e = 2 ∨ e = 3 := by
  unfold wE at he
  split at he
  · exact .inr (.inr he)
  · split at he
    · exact .inr (.inl he)
    · exact .inl he
/-- Some lists' bytes. -/
def tot (l : List (List UInt8)) : Nat := l.flatten.length
theorem take_stepL {α : Type} (l : List α) (d : α) {i : Nat} (h : i < l.length) : l.take (i + 1) = l.take i ++ [l.getD i d] := by
  rw [List.take_add_one, List.getElem?_eq_getElem h, List.getD_eq_getElem?_getD, List.getElem?_eq_getElem h]; rfl
theorem flat_step (l : List (List UInt8)) {i : Nat} (h : i < l.length) : (l.take (i + 1)).flatten = (l.take i).flatten ++ l.getD i [] := by
  rw [take_stepL l [] h, List.flatten_append, List.flatten_singleton]
theorem tot_take (l : List (List UInt8)) (i : Nat) : (l.take i).flatten.length ≤ tot l := by
  unfold tot
  have := congrArg (fun l : List (List UInt8) => l.flatten.length) (List.take_append_drop i l)
  simp only [List.flatten_append, List.length_append] at this
  omega
theorem get_tot (l : List (List UInt8)) {i : Nat} (h : i < l.length) : (l.getD i []).length ≤ tot l := by
  have h1 := tot_take l (i + 1)
  rw [flat_step l h, List.length_append] at h1
  omega
/-- Their lengths, none reckoned as more than c. -/
def smin (l : List (List UInt8)) (c : Nat) : Nat → Nat
  | 0 => 0
  | i + 1 => smin l c i + min (l.getD i []).length c
theorem smin_le (l c) : ∀ i, smin l c i ≤ c * i
  | 0 => by simp [smin]
  | i + 1 => by
    have := smin_le l c i
    rw [smin, Nat.mul_succ]; omega
theorem smin_tot (l : List (List UInt8)) {c b : Nat} (hb : b < c) : ∀ i, i ≤ l.length → smin l c i ≤ b → (l.take i).flatten.length = smin l c i
  | 0, _, _ => by simp [smin]
  | i + 1, hi, h => by
    rw [smin] at h ⊢
    rw [flat_step l (by omega), List.length_append, smin_tot l hb i (by omega) (by omega)]
    omega
theorem smin_all (l : List (List UInt8)) {c b : Nat} (hb : b < c) (h : smin l c l.length ≤ b) : tot l ≤ b := by
  have := smin_tot l hb l.length (Nat.le_refl _) h
  rw [List.take_length] at this
  unfold tot; omega
/-! The theorems. -/
theorem much_step {l w a} {i : Nat} (h : errN l w a i = 0) : (outN l w a i).length + (holdN l w (i + 1)).length ≤ (holdN l w i).length + 2 * (l.getD i []).length := by
  have m := (wOut_mod (l.getD i []) ((w.getD i 0).toNat : Int) (a.getD i 0)).2
  have e := wOut_length (l.getD i []) ((w.getD i 0).toNat : Int) (a.getD i 0)
  unfold outN
  rw [List.length_append, holdN]
  split
  · omega
  · simp only [List.length_nil]; omega
theorem much {l w a} : ∀ k, k ≤ l.length → (∀ j, j < k → errN l w a j = 0) → (outs l w a k).flatten.length + (holdN l w k).length ≤ 2 * (l.take k).flatten.length
  | 0, _, _ => by simp [outs, holdN]
  | k + 1, hk, h => by
    have h1 := much k (by omega) fun j hj => h j (by omega)
    have h2 := much_step (h k (by omega))
    rw [outs_succ, List.flatten_append, List.flatten_singleton, List.length_append, flat_step l (by omega), List.length_append]
    omega
theorem much_all {l w a} (h : firstE l w a l.length = 0) : (outs l w a l.length).flatten.length ≤ 2 * tot l := by
  have := much l.length (Nat.le_refl _) (firstE_zero h)
  rw [List.take_length] at this
  unfold tot; omega
theorem keeps {l w a} (hw : ∀ j, j < l.length → (w.getD j 0).toNat = 0 ∨ (w.getD j 0).toNat = 3) : ∀ k, k ≤ l.length → (outs l w a k).flatten ++ holdN l w k = (l.take k).flatten
  | 0, _ => by simp [outs, holdN]
  | k + 1, hk => by
    have h1 := keeps (a := a) hw k (by omega)
    rw [outs_succ, List.flatten_append, List.flatten_singleton, flat_step l (by omega), ← h1, holdN]
    unfold outN
    rcases hw k (by omega) with c | c
    · rw [c, if_neg (by omega)]
      show _ ++ (_ ++ l.getD k []) ++ [] = _
      simp
    · rw [c, if_pos rfl]
      show _ ++ (_ ++ []) ++ _ = _
      simp
theorem hold_le (l w : _) (k : Nat) (hk : k ≤ l.length) : (holdN l w k).length ≤ tot l := by
  cases k with
  | zero => simp [holdN]
  | succ k =>
    rw [holdN]
    split
    · exact get_tot l (by omega)
    · simp
end Go.Wr
namespace Go.Wr
open Go
set_option linter.unusedVariables false
set_option linter.unusedSimpArgs false
theorem run_ok {l : List (List UInt8)} {w : List UInt8} {a : List Int} (h1 : l.length ≤ 200) (h2 : tot l ≤ 16384) (hw : w.length = l.length) (ha : a.length = l.length) (h3 : ∀ j, j < l.length → (w.getD j 0).toNat ≤ 4) (h4 : ∀ j, j < l.length → 0 ≤ a.getD j 0) : rE l w a = 0 := by
  refine rE_zero (by omega) hw ha (firstE_ok fun j hj => ?_)
  unfold errN
  have := hold_le l w j (by omega)
  have := get_tot l hj
  exact wE_ok (by omega) (by omega) (by have := h3 j hj; omega) (h4 j hj)
theorem rep_get (n j : Nat) : (List.replicate n (0 : Int)).getD j 0 = 0 := by
  rw [List.getD_eq_getElem?_getD, List.getElem?_replicate]; split <;> rfl
theorem keeps_all {l w a} (hw : ∀ j, j < l.length → (w.getD j 0).toNat = 0 ∨ (w.getD j 0).toNat = 3) (h0 : 0 < l.length) (hl : (w.getD (l.length - 1) 0).toNat = 0) : (outs l w a l.length).flatten = l.flatten := by
  have h := keeps (a := a) hw l.length (Nat.le_refl _)
  rw [List.take_length] at h
  rw [← h]
  have e : holdN l w l.length = [] := by
    rw [show l.length = (l.length - 1) + 1 by omega, holdN, hl, if_neg (by omega)]
  rw [e, List.append_nil]
theorem at_ok {l w a} (h : rE l w a = 0) {j : Nat} (hj : j < l.length) : 0 ≤ a.getD j 0 := by
  have := firstE_zero (rE_none h).2.2.2 j hj
  exact (wE_zero this).2.2.2
theorem loses_out {l : List (List UInt8)} {w : List UInt8} {a : List Int} (hw : ∀ j, j < l.length → (w.getD j 0).toNat = 1) : ∀ k, k ≤ l.length → (outs l w a k).flatten = [] ∧ holdN l w k = []
  | 0, _ => by simp [outs, holdN]
  | k + 1, hk => by
    obtain ⟨h1, h2⟩ := loses_out hw k (by omega)
    have e := hw k (by omega)
    refine ⟨?_, by rw [holdN, e, if_neg (by omega)]⟩
    rw [outs_succ, List.flatten_append, List.flatten_singleton, h1]
    unfold outN
    rw [h2, e]
    rfl
end Go.Wr
namespace Go.Wr
open Go
set_option linter.unusedVariables false
set_option linter.unusedSimpArgs false
theorem takeAll {α : Type} {l : List (List UInt8)} {w : List α} (h : w.length = l.length) : List.take l.length (List.drop 0 w) = w := by
  rw [List.drop_zero, List.take_of_length_le (by omega)]
theorem takeOuts (l : List (List UInt8)) (w : List UInt8) (a : List Int) : List.take l.length (List.drop 0 (outs l w a l.length)) = outs l w a l.length := takeAll (outs_length _ _ _ _)
theorem totOuts {l : List (List UInt8)} {w : List UInt8} {a : List Int} (h : rE l w a = 0) : tot (List.take l.length (List.drop 0 (outs l w a l.length))) ≤ 2 * tot l := by
  rw [takeOuts]
  exact much_all (rE_none h).2.2.2
theorem keepsE {l : List (List UInt8)} {w : List UInt8} (h : w.length = l.length) (hw : ∀ j : Nat, (w.getD j 0).toNat = 0 ∨ (w.getD j 0).toNat = 3) (h1 : l.length ≤ 200) (h2 : tot l ≤ 16384) : rE l (List.take l.length (List.drop 0 w)) (List.take l.length (List.drop 0 (List.replicate l.length (0 : Int)))) = 0 := by
  rw [takeAll h, takeAll (List.length_replicate)]
  exact run_ok h1 h2 h List.length_replicate (fun j _ => by rcases hw j with c | c <;> omega) (fun j _ => by rw [rep_get]; omega)
theorem losesE {l : List (List UInt8)} {w w' : List UInt8} {a : List Int} (hr : rE l w a = 0) (h : w'.length = l.length) (hw : ∀ j : Nat, j < l.length → (w'.getD j 0).toNat = 1) (h1 : l.length ≤ 200) (h2 : tot l ≤ 16384) : rE l (List.take l.length (List.drop 0 w')) a = 0 := by
  rw [takeAll h]
  exact run_ok h1 h2 h (rE_none hr).2.2.1 (fun j hj => by have := hw j hj; omega) (fun j hj => at_ok hr hj)
theorem same_next {held ins : List UInt8} {what p e e' : Int} {ys us ys' us' : List UInt8} (h1 : e = wE held.length ins.length what p) (h2 : e = 0 → ys = held ++ wOut ins what p) (h3 : e = 0 → us = if what = 3 then ins else []) (h4 : e ≠ 0 → ys = [] ∧ us = [])
    (g1 : e' = wE held.length ins.length what p) (g2 : e' = 0 → ys' = held ++ wOut ins what p) (g3 : e' = 0 → us' = if what = 3 then ins else []) (g4 : e' ≠ 0 → ys' = [] ∧ us' = []) : ys = ys' ∧ us = us' ∧ e = e' := by
  have E : e = e' := h1.trans g1.symm
  subst E
  by_cases c : e = 0
  · exact ⟨(h2 c).trans (g2 c).symm, (h3 c).trans (g3 c).symm, rfl⟩
  · exact ⟨(h4 c).1.trans (g4 c).1.symm, (h4 c).2.trans (g4 c).2.symm, rfl⟩
end Go.Wr
