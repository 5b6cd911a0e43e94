import Derived.Test.YtcdflgfhkohldaaEngW
namespace Go.Bk
open Go Go.Eng
set_option linter.unusedVariables false
set_option linter.unusedSimpArgs false
theorem take_step {α : Type} (l : List α) (d : α) {i : Nat} (h : i < l.length) : l.take (i + 1) = l.take i ++ [l.getD i d] := by
  rw [List.take_add_one, List.getElem?_eq_getElem h, List.getD_eq_getElem?_getD, List.getElem?_eq_getElem h]; rfl
theorem drop_step {α : Type} (l : List α) (d : α) {i : Nat} (h : i < l.length) : l.drop i = l.getD i d :: l.drop (i + 1) := by
  rw [List.drop_eq_getElem_cons h, List.getD_eq_getElem?_getD, List.getElem?_eq_getElem h]; rfl
theorem set_mid (A : List UInt8) (m : Nat) (x : UInt8) (h : 0 < m) : (A ++ List.replicate m (0 : UInt8)).set A.length x = A ++ [x] ++ List.replicate (m - 1) 0 := by
  obtain ⟨k, rfl⟩ : ∃ k, m = k + 1 := ⟨m - 1, by omega⟩
  rw [List.set_append_right _ _ (Nat.le_refl _), Nat.sub_self, List.replicate_succ, List.set_cons_zero, Nat.add_sub_cancel, List.append_assoc]
  rfl
def dOk (n : Nat) : Prop := 64 ≤ n ∧ n ≤ 4096 ∧ n % 64 = 0
instance (n : Nat) : Decidable (dOk n) := by unfold dOk; infer_instance
def chkE (d : List UInt8) : Int := if dOk d.length then 0 else 180
def askE (d : List UInt8) (n : Int) : Int := if dOk d.length then (if 0 ≤ n ∧ n < (d.length / 64 : Nat) then 0 else 2) else 180
def putsE (m : Nat) : List Put → Int
  | [] => 0
  | p :: r => if 0 ≤ p.n ∧ p.n < (m / 64 : Nat) then (if p.data.length = 64 then putsE m r else 8) else 2
def doE (d : List UInt8) (l : List Put) (w t : Int) : Int := if dOk d.length then (if putsE d.length l = 0 then (if w < 0 ∨ (l.length : Int) < w ∨ t < 0 ∨ 64 < t then 2 else 0) else putsE d.length l) else 180
def wr (d : List UInt8) (n : Int) (b : List UInt8) (m : Nat) : List UInt8 := d.take (64 * n.toNat) ++ b.take m ++ d.drop (64 * n.toNat + m)
def doF (d : List UInt8) (l : List Put) (w t : Int) : Nat → List UInt8
  | 0 => d
  | i + 1 => if (i : Int) < w then wr (doF d l w t i) (l.getD i (dflt 9)).n (l.getD i (dflt 9)).data 64 else if (i : Int) = w then wr (doF d l w t i) (l.getD i (dflt 9)).n (l.getD i (dflt 9)).data t.toNat else doF d l w t i
def doO (d : List UInt8) (l : List Put) (w t : Int) : List UInt8 := if doE d l w t = 0 then doF d l w t l.length else []
def blk (d : List UInt8) (n : Int) : List UInt8 := (d.drop (64 * n.toNat)).take 64
def rdO (d : List UInt8) (n : Int) : List UInt8 := if askE d n = 0 then blk d n else []
def PutOk (m : Nat) (p : Put) : Prop := (0 ≤ p.n ∧ p.n < (m / 64 : Nat)) ∧ p.data.length = 64
theorem putsE_0 {m : Nat} : ∀ {l : List Put}, putsE m l = 0 ↔ ∀ p, p ∈ l → PutOk m p
  | [] => by simp [putsE]
  | p :: r => by
    rw [putsE]
    by_cases c : 0 ≤ p.n ∧ p.n < (m / 64 : Nat)
    · rw [if_pos c]
      by_cases e : p.data.length = 64
      · rw [if_pos e, putsE_0 (l := r)]
        refine ⟨fun h q hq => ?_, fun h q hq => h q (List.mem_cons_of_mem _ hq)⟩
        rcases List.mem_cons.1 hq with rfl | hq
        · exact ⟨c, e⟩
        · exact h q hq
      · rw [if_neg e]
        exact ⟨fun h => absurd h (by decide), fun h => absurd (h p (List.mem_cons_self ..)).2 e⟩
    · rw [if_neg c]
      exact ⟨fun h => absurd h (by decide), fun h => absurd (h p (List.mem_cons_self ..)).1 c⟩
theorem putsE_cases (m : Nat) : ∀ (l : List Put), putsE m l = 0 ∨ putsE m l = 2 ∨ putsE m l = 8
  | [] => .inl rfl
  | p :: r => by
    rw [putsE]
    split
    · split
      · exact putsE_cases m r
      · exact .inr (.inr rfl)
    · exact .inr (.inl rfl)
theorem putsE_step {m : Nat} {l : List Put} {i : Nat} (h : i < l.length) : putsE m (l.drop i) = if 0 ≤ (l.getD i (dflt 9)).n ∧ (l.getD i (dflt 9)).n < (m / 64 : Nat) then (if (l.getD i (dflt 9)).data.length = 64 then putsE m (l.drop (i + 1)) else 8) else 2 := by
  rw [drop_step l (dflt 9) h, putsE]
theorem wr_len {d b : List UInt8} {n : Int} {m : Nat} (h : 64 * n.toNat + m ≤ d.length) (hb : m ≤ b.length) : (wr d n b m).length = d.length := by
  unfold wr
  simp only [List.length_append, List.length_take, List.length_drop]; omega
theorem wr_get {d b : List UInt8} {n : Int} {m : Nat} (h : 64 * n.toNat + m ≤ d.length) (hb : m ≤ b.length) (j : Nat) : (wr d n b m)[j]? = if 64 * n.toNat ≤ j ∧ j < 64 * n.toNat + m then b[j - 64 * n.toNat]? else d[j]? := by
  unfold wr
  have hm : (b.take m).length = m := by rw [List.length_take]; omega
  have := splice_list d (b.take m) (64 * n.toNat) (by omega) j
  rw [hm] at this
  rw [this]
  split
  · rename_i c
    rw [List.getElem?_take, if_pos (by omega)]
  · rfl
theorem blk_get (d : List UInt8) (n : Int) (j : Nat) : (blk d n)[j]? = if j < 64 then d[64 * n.toNat + j]? else none := by
  unfold blk
  rw [List.getElem?_take]
  split
  · rw [List.getElem?_drop]
  · rfl
theorem blk_len {d : List UInt8} {n : Int} (h : 64 * n.toNat + 64 ≤ d.length) : (blk d n).length = 64 := by
  unfold blk
  rw [List.length_take, List.length_drop]; omega
theorem blk_other {d b : List UInt8} {n k : Int} {m : Nat} (h : 64 * n.toNat + m ≤ d.length) (hb : m ≤ b.length) (hm : m ≤ 64) (hn : 0 ≤ n) (hk : 0 ≤ k) (hne : n ≠ k) : blk (wr d n b m) k = blk d k := by
  apply List.ext_getElem?
  intro j
  rw [blk_get, blk_get]
  split
  · rename_i c
    rw [wr_get h hb, if_neg (by omega)]
  · rfl
theorem blk_same {d b : List UInt8} {n : Int} {m : Nat} (h : 64 * n.toNat + 64 ≤ d.length) (hb : b.length = 64) (hm : m ≤ 64) : blk (wr d n b m) n = b.take m ++ (blk d n).drop m := by
  apply List.ext_getElem?
  intro j
  rw [blk_get]
  have hl : (b.take m).length = m := by rw [List.length_take]; omega
  by_cases c : j < m
  · rw [if_pos (by omega), wr_get (by omega) (by omega), if_pos (by omega), List.getElem?_append_left (by omega), List.getElem?_take, if_pos c]
    congr 1; omega
  · rw [List.getElem?_append_right (by omega), hl, List.getElem?_drop, blk_get]
    by_cases c2 : j < 64
    · rw [if_pos c2, if_pos (by omega), wr_get (by omega) (by omega), if_neg (by omega)]
      congr 1; omega
    · rw [if_neg c2, if_neg (by omega)]
theorem room {m : Nat} {n : Int} (hm : m % 64 = 0) (h0 : 0 ≤ n) (h : n < (m / 64 : Nat)) : 64 * n.toNat + 64 ≤ m := by omega
theorem doF_len {d : List UInt8} {l : List Put} {w t : Int} (hd : dOk d.length) (hl : ∀ p, p ∈ l → PutOk d.length p) (ht : t ≤ 64) : ∀ (i : Nat), i ≤ l.length → (doF d l w t i).length = d.length
  | 0, _ => rfl
  | i + 1, h => by
    have ih := doF_len hd hl ht (w := w) i (by omega)
    have hp : PutOk d.length (l.getD i (dflt 9)) := by
      refine hl _ ?_
      rw [List.getD_eq_getElem?_getD, List.getElem?_eq_getElem (by omega)]; exact List.getElem_mem _
    obtain ⟨⟨p1, p2⟩, p3⟩ := hp
    have r := room hd.2.2 p1 p2
    rw [doF]
    split
    · rw [wr_len (by rw [ih]; exact r) (by omega)]; exact ih
    · split
      · rw [wr_len (by rw [ih]; omega) (by omega)]; exact ih
      · exact ih
theorem get_mem {l : List Put} {i : Nat} (h : i < l.length) : l.getD i (dflt 9) ∈ l := by
  rw [List.getD_eq_getElem?_getD, List.getElem?_eq_getElem h]; exact List.getElem_mem _
structure Apart (l : List Put) (i : Nat) : Prop where
  e : ∀ j k, k < j → j < i → (l.getD k (dflt 9)).n ≠ (l.getD j (dflt 9)).n
def manyB (w t : Int) (i : Nat) : Nat := if (i : Int) < w then 64 else if (i : Int) = w then t.toNat else 0
theorem wr_none (d b : List UInt8) (n : Int) : wr d n b 0 = d := by
  unfold wr
  simp
theorem doF_step (d : List UInt8) (l : List Put) (w t : Int) (i : Nat) : doF d l w t (i + 1) = wr (doF d l w t i) (l.getD i (dflt 9)).n (l.getD i (dflt 9)).data (manyB w t i) := by
  rw [doF]
  unfold manyB
  split
  · rfl
  · split
    · rfl
    · rw [wr_none]
theorem many_le {w t : Int} (ht : t ≤ 64) (i : Nat) : manyB w t i ≤ 64 := by
  unfold manyB
  split
  · exact Nat.le_refl _
  · split <;> omega
theorem torn {d : List UInt8} {l : List Put} {w t : Int} (hd : dOk d.length) (hl : ∀ p, p ∈ l → PutOk d.length p) (ht : t ≤ 64) (ha : Apart l l.length) {i : Nat} (hi : i < l.length) :
    blk (doF d l w t l.length) (l.getD i (dflt 9)).n = (l.getD i (dflt 9)).data.take (manyB w t i) ++ (blk d (l.getD i (dflt 9)).n).drop (manyB w t i) := by
  have P : ∀ j, j < l.length → PutOk d.length (l.getD j (dflt 9)) := fun j hj => hl _ (get_mem hj)
  have R : ∀ j, j < l.length → 64 * (l.getD j (dflt 9)).n.toNat + 64 ≤ d.length := fun j hj => room hd.2.2 (P j hj).1.1 (P j hj).1.2
  have L : ∀ j, j ≤ l.length → (doF d l w t j).length = d.length := fun j hj => doF_len hd hl ht j hj
  have other : ∀ j, j < l.length → (l.getD j (dflt 9)).n ≠ (l.getD i (dflt 9)).n → blk (doF d l w t (j + 1)) (l.getD i (dflt 9)).n = blk (doF d l w t j) (l.getD i (dflt 9)).n := fun j hj hne => by
    have m := many_le (w := w) ht j
    rw [doF_step, blk_other (by rw [L j (by omega)]; have := R j hj; omega) (by rw [(P j hj).2]; exact m) m (P j hj).1.1 (P i hi).1.1 hne]
  have before : ∀ j, j ≤ i → blk (doF d l w t j) (l.getD i (dflt 9)).n = blk d (l.getD i (dflt 9)).n := by
    intro j
    induction j with
    | zero => intro _; rfl
    | succ j ih => intro hj; rw [other j (by omega) (ha.e i j (by omega) hi), ih (by omega)]
  have after : ∀ k, i + 1 + k ≤ l.length → blk (doF d l w t (i + 1 + k)) (l.getD i (dflt 9)).n = blk (doF d l w t (i + 1)) (l.getD i (dflt 9)).n := by
    intro k
    induction k with
    | zero => intro _; rfl
    | succ k ih => intro hk; rw [show i + 1 + (k + 1) = (i + 1 + k) + 1 by omega, other _ (by omega) (fun e => ha.e (i + 1 + k) i (by omega) (by omega) e.symm), ih (by omega)]
  have e := after (l.length - (i + 1)) (by omega)
  rw [show i + 1 + (l.length - (i + 1)) = l.length by omega] at e
  rw [e, doF_step, blk_same (by rw [L i (by omega)]; exact R i hi) (P i hi).2 (many_le ht i), before i (Nat.le_refl _)]
theorem doF_more (d : List UInt8) (l : List Put) (w t : Int) {i : Nat} (hi : w + 1 ≤ i) : ∀ k, doF d l w t (i + k) = doF d l w t i
  | 0 => rfl
  | k + 1 => by
    rw [← Nat.add_assoc, doF_step, doF_more d l w t hi k]
    unfold manyB
    rw [if_neg (by omega), if_neg (by omega), wr_none]
theorem doF_same (d : List UInt8) (l : List Put) {w w2 t t2 : Int} : ∀ (i : Nat), (i : Int) ≤ w → (i : Int) ≤ w2 → doF d l w t i = doF d l w2 t2 i
  | 0, _, _ => rfl
  | i + 1, h1, h2 => by
    rw [doF_step, doF_step, doF_same d l (t := t) (t2 := t2) i (by omega) (by omega : (i : Int) ≤ w2)]
    unfold manyB
    rw [if_pos (by omega), if_pos (by omega)]
theorem doF_at (d : List UInt8) (l : List Put) (i : Nat) : ∀ k, doF d l i 0 (i + k) = doF d l i 0 i
  | 0 => rfl
  | k + 1 => by
    rw [← Nat.add_assoc, doF_step, doF_at d l i k]
    unfold manyB
    rw [if_neg (by omega)]
    split
    · exact wr_none ..
    · exact wr_none ..
theorem doF_drop (d : List UInt8) (l : List Put) (w : Int) (i : Nat) : ∀ (k : Nat), doF (doF d l w 0 i) (l.drop i) (w - i) 0 k = doF d l w 0 (i + k)
  | 0 => rfl
  | k + 1 => by
    rw [doF_step, doF_drop d l w i k, ← Nat.add_assoc, doF_step]
    have e : (l.drop i).getD k (dflt 9) = l.getD (i + k) (dflt 9) := by
      rw [List.getD_eq_getElem?_getD, List.getD_eq_getElem?_getD, List.getElem?_drop]
    rw [e]
    congr 1
    unfold manyB
    have c1 : ((k : Int) < w - i) ↔ (((i + k : Nat) : Int) < w) := by omega
    have c2 : ((k : Int) = w - i) ↔ (((i + k : Nat) : Int) = w) := by omega
    simp only [c1, c2]
theorem doE_0 {d : List UInt8} {l : List Put} {w t : Int} : doE d l w t = 0 ↔ dOk d.length ∧ (∀ p, p ∈ l → PutOk d.length p) ∧ (0 ≤ w ∧ w ≤ l.length) ∧ (0 ≤ t ∧ t ≤ 64) := by
  unfold doE
  split
  · rename_i c
    split
    · rename_i c2
      split
      · exact ⟨fun h => absurd h (by decide), fun h => by exfalso; omega⟩
      · exact ⟨fun _ => ⟨c, putsE_0.1 c2, by omega, by omega⟩, fun _ => rfl⟩
    · rename_i c2
      exact ⟨fun h => absurd h c2, fun h => absurd (putsE_0.2 h.2.1) c2⟩
  · rename_i c
    exact ⟨fun h => absurd h (by decide), fun h => absurd h.1 c⟩
theorem pieces {d : List UInt8} {l : List Put} {i : Nat} (hi : i ≤ l.length) (h : doE d l l.length 0 = 0) :
    doE d l i 0 = 0 ∧ doE (doO d l i 0) (l.drop i) ((l.length : Int) - i) 0 = 0 ∧ doO d l l.length 0 = doO (doO d l i 0) (l.drop i) ((l.length : Int) - i) 0 := by
  obtain ⟨h1, h2, h3, h4⟩ := doE_0.1 h
  have e1 : doE d l i 0 = 0 := doE_0.2 ⟨h1, h2, by omega, by omega⟩
  have y : doO d l i 0 = doF d l l.length 0 i := by
    unfold doO
    rw [if_pos e1, show l.length = i + (l.length - i) by omega, doF_at]
    exact doF_same d l i (by omega) (by omega)
  have yl : (doO d l i 0).length = d.length := by rw [y]; exact doF_len h1 h2 (by omega) i hi
  have e2 : doE (doO d l i 0) (l.drop i) ((l.length : Int) - i) 0 = 0 := doE_0.2 ⟨by rw [yl]; exact h1, fun p hp => by rw [yl]; exact h2 p (List.mem_of_mem_drop hp), by rw [List.length_drop]; omega, by omega⟩
  refine ⟨e1, e2, ?_⟩
  unfold doO at y ⊢
  rw [if_pos e1] at y
  rw [if_pos h, if_pos e1]
  have e2' := e2
  unfold doO at e2'
  rw [if_pos e1] at e2'
  rw [if_pos e2', y, List.length_drop, doF_drop, show i + (l.length - i) = l.length by omega]
theorem whole_torn {d : List UInt8} {l : List Put} {i : Nat} (hi : i < l.length) (h : doE d l l.length 0 = 0) : doE d l i 64 = 0 ∧ doE d l ((i : Int) + 1) 0 = 0 ∧ doO d l i 64 = doO d l ((i : Int) + 1) 0 := by
  obtain ⟨h1, h2, h3, h4⟩ := doE_0.1 h
  have e1 : doE d l i 64 = 0 := doE_0.2 ⟨h1, h2, by omega, by omega⟩
  have e2 : doE d l ((i : Int) + 1) 0 = 0 := doE_0.2 ⟨h1, h2, by omega, by omega⟩
  refine ⟨e1, e2, ?_⟩
  unfold doO
  rw [if_pos e1, if_pos e2, show l.length = (i + 1) + (l.length - (i + 1)) by omega, doF_more d l i 64 (by omega)]
  have := doF_at d l (i + 1) (l.length - (i + 1))
  rw [show ((i + 1 : Nat) : Int) = (i : Int) + 1 by omega] at this
  rw [this, doF_step, doF_step, doF_same d l (t := 64) (t2 := 0) i (by omega) (by omega : (i : Int) ≤ (i : Int) + 1)]
  unfold manyB
  rw [if_neg (by omega), if_pos rfl, if_pos (by omega)]
  rfl
theorem last {d b : List UInt8} {n : Int} (hb : b.length = 64) (h : doE d [⟨n, b⟩] 1 0 = 0) : askE (doO d [⟨n, b⟩] 1 0) n = 0 ∧ rdO (doO d [⟨n, b⟩] 1 0) n = b ∧ (doO d [⟨n, b⟩] 1 0).length = d.length ∧ ∀ m, askE (doO d [⟨n, b⟩] 1 0) m = askE d m ∧ (m ≠ n → rdO (doO d [⟨n, b⟩] 1 0) m = rdO d m) := by
  obtain ⟨h1, h2, h3, h4⟩ := doE_0.1 h
  obtain ⟨⟨p1, p2⟩, p3⟩ := h2 ⟨n, b⟩ (List.mem_singleton.2 rfl)
  dsimp only at p1 p2 p3
  have R := room h1.2.2 p1 p2
  have y : doO d [⟨n, b⟩] 1 0 = wr d n b 64 := by
    unfold doO
    rw [if_pos h]
    show doF d [⟨n, b⟩] 1 0 (0 + 1) = _
    rw [doF, if_pos (by decide)]; rfl
  have yl : (wr d n b 64).length = d.length := wr_len R (by omega)
  rw [y]
  have A : ∀ m, askE (wr d n b 64) m = askE d m := fun m => by unfold askE; rw [yl]
  have an : askE d n = 0 := by unfold askE; rw [if_pos h1, if_pos ⟨p1, p2⟩]
  refine ⟨by rw [A]; exact an, ?_, yl, fun m => ⟨A m, fun hm => ?_⟩⟩
  · unfold rdO
    rw [A, if_pos an, blk_same R hb (Nat.le_refl _), List.take_of_length_le (by omega), List.drop_of_length_le (by rw [blk_len R]; exact Nat.le_refl _), List.append_nil]
  · unfold rdO
    rw [A]
    split
    · rename_i c
      unfold askE at c
      rw [if_pos h1] at c
      split at c
      · rename_i c2
        exact blk_other R (by omega) (Nat.le_refl _) p1 c2.1 (fun e => hm e.symm)
      · exact absurd c (by decide)
    · rfl
theorem chk_0 {d : List UInt8} : chkE d = 0 ↔ dOk d.length := by
  unfold chkE
  split
  · rename_i c; exact ⟨fun _ => c, fun _ => rfl⟩
  · rename_i c; exact ⟨fun h => absurd h (by decide), fun h => absurd h c⟩
theorem ask_0 {d : List UInt8} {n : Int} : askE d n = 0 ↔ dOk d.length ∧ 0 ≤ n ∧ n < (d.length / 64 : Nat) := by
  unfold askE
  split
  · rename_i c
    split
    · rename_i c2; exact ⟨fun _ => ⟨c, c2⟩, fun _ => rfl⟩
    · rename_i c2; exact ⟨fun h => absurd h (by decide), fun h => absurd h.2 c2⟩
  · rename_i c; exact ⟨fun h => absurd h (by decide), fun h => absurd h.1 c⟩
theorem ask_chk {d : List UInt8} {n : Int} (h : ¬ chkE d = 0) : askE d n = chkE d := by
  have o : ¬ dOk d.length := fun c => h (chk_0.2 c)
  unfold askE chkE
  rw [if_neg o, if_neg o]
def err0 (d : List UInt8) (l : List Put) : Int := if dOk d.length then putsE d.length l else 180
theorem do_err {d : List UInt8} {l : List Put} {w t : Int} (h : err0 d l ≠ 0) : doE d l w t = err0 d l := by
  unfold err0 at h ⊢
  unfold doE
  split
  · rename_i c
    rw [if_pos c] at h
    rw [if_neg h]
  · rfl
theorem do_arg {d : List UInt8} {l : List Put} {w t : Int} (h : err0 d l = 0) : doE d l w t = if w < 0 ∨ (l.length : Int) < w ∨ t < 0 ∨ 64 < t then 2 else 0 := by
  unfold err0 at h
  unfold doE
  split at h
  · rename_i c; rw [if_pos c, if_pos h]
  · exact absurd h (by decide)
theorem doF_end {d : List UInt8} {l : List Put} {t : Int} {w : Nat} (hw : w < l.length) : doF d l w t l.length = wr (doF d l w t w) (l.getD w (dflt 9)).n (l.getD w (dflt 9)).data t.toNat := by
  have := doF_more d l w t (i := w + 1) (by omega) (l.length - (w + 1))
  rw [show w + 1 + (l.length - (w + 1)) = l.length by omega] at this
  rw [this, doF_step]
  unfold manyB
  rw [if_neg (by omega), if_pos rfl]
theorem doO_eq {d : List UInt8} {l : List Put} {w t : Int} (h : doE d l w t = 0) : (doO d l w t).length = d.length := by
  obtain ⟨h1, h2, h3, h4⟩ := doE_0.1 h
  unfold doO
  rw [if_pos h]
  exact doF_len h1 h2 h4.2 _ (Nat.le_refl _)
theorem doO_len (d : List UInt8) (l : List Put) (w t : Int) : (doO d l w t).length ≤ d.length := by
  by_cases h : doE d l w t = 0
  · rw [doO_eq h]; exact Nat.le_refl _
  · unfold doO; rw [if_neg h]; simp
theorem tornF {d : List UInt8} {l : List Put} {w t n : Int} {i : Nat} (h : doE d l w t = 0) (ha : Apart l l.length) (hi : i < l.length) (hn : n = (l.getD (i : Int).toNat (dflt 9)).n) :
    askE d n = 0 ∧ askE (doO d l w t) n = 0 ∧ (rdO d n).length = 64 ∧ (rdO (doO d l w t) n).length = 64 ∧ (l.getD i (dflt 9)).data.length = 64 ∧ rdO (doO d l w t) n = (l.getD i (dflt 9)).data.take (manyB w t i) ++ (rdO d n).drop (manyB w t i) := by
  obtain ⟨h1, h2, h3, h4⟩ := doE_0.1 h
  rw [Int.toNat_natCast] at hn
  obtain ⟨⟨p1, p2⟩, p3⟩ := h2 _ (get_mem hi)
  rw [← hn] at p1 p2
  have L := doO_eq h
  have a1 : askE d n = 0 := ask_0.2 ⟨h1, p1, p2⟩
  have a2 : askE (doO d l w t) n = 0 := ask_0.2 (by rw [L]; exact ⟨h1, p1, p2⟩)
  have R := room h1.2.2 p1 p2
  have b1 : rdO d n = blk d n := by unfold rdO; rw [if_pos a1]
  have b2 : rdO (doO d l w t) n = blk (doO d l w t) n := by unfold rdO; rw [if_pos a2]
  have T := torn (w := w) h1 h2 h4.2 ha hi
  rw [← hn] at T
  have e : doO d l w t = doF d l w t l.length := by unfold doO; rw [if_pos h]
  refine ⟨a1, a2, by rw [b1]; exact blk_len R, by rw [b2]; exact blk_len (by rw [L]; exact R), p3, ?_⟩
  rw [b2, b1, e]; exact T
theorem torn_take {a b x : List UInt8} {k : Nat} (hx : x = a.take k ++ b.drop k) (ha : a.length = 64) (hk : k ≤ 64) : x.take k = a.take k ∧ x.drop k = b.drop k := by
  have l : (a.take k).length = k := by rw [List.length_take]; omega
  refine ⟨?_, ?_⟩
  · rw [hx, List.take_append_of_le_length (by omega), List.take_of_length_le (by omega)]
  · rw [hx, List.drop_append_of_le_length (by omega), List.drop_of_length_le (by omega)]; rfl
end Go.Bk
