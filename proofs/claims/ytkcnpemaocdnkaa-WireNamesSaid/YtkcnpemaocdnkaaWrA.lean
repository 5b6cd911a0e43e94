import Derived.Test.YtkcnpemaocdnkaaEngW
namespace Go.Wr
open Go
set_option linter.unusedVariables false
set_option linter.unusedSimpArgs false
def wE (h i : Nat) (what at' : Int) : Int := if 16384 < h ∨ 16384 < i then 3 else if 4 < what ∨ at' < 0 then 2 else 0
def turn (ins : List UInt8) (p : Int) : List UInt8 := if ins = [] then [] else ins.set (p % ins.length).toNat (ins.getD (p % ins.length).toNat 0 ^^^ 255)
def wOut (ins : List UInt8) (what p : Int) : List UInt8 := if what = 0 then ins else if what = 2 then ins ++ ins else if what = 4 then turn ins p else []
/-- In how many of the first places they are other ones. -/
def df (rest ins : List UInt8) : Nat → Int
  | 0 => 0
  | k + 1 => df rest ins k + if rest.getD k 0 = ins.getD (k % ins.length) 0 then 0 else 1
theorem xor_u8 : ∀ x : UInt8, UInt8.ofNat (bits .xor .u8 (x.toNat : Int) 255).toNat = x ^^^ 255 := by
  intro x
  have : ∀ n : Fin 256, UInt8.ofNat (bits .xor .u8 (n.val : Int) 255).toNat = UInt8.ofNat n.val ^^^ 255 := by decide +kernel
  have h := this ⟨x.toNat, x.toNat_lt⟩
  simpa using h
theorem xor_u8b : ∀ x : UInt8, UInt8.ofNat (((x.toNat : Int).toNat ^^^ Int.toNat 255 : Nat) : Int).toNat = x ^^^ 255 := by
  intro x
  have : ∀ n : Fin 256, UInt8.ofNat ((((n.val : Int)).toNat ^^^ Int.toNat 255 : Nat) : Int).toNat = UInt8.ofNat n.val ^^^ 255 := by decide +kernel
  have h := this ⟨x.toNat, x.toNat_lt⟩
  simp
theorem xor_ne (x : UInt8) : x ^^^ 255 ≠ x := by
  have : ∀ n : Fin 256, UInt8.ofNat n.val ^^^ 255 ≠ UInt8.ofNat n.val := by decide +kernel
  have h := this ⟨x.toNat, x.toNat_lt⟩
  simpa using h
theorem xor_xor (x : UInt8) : x ^^^ 255 ^^^ 255 = x := by
  rw [UInt8.xor_assoc, UInt8.xor_self, UInt8.xor_zero]
theorem turn_length (ins : List UInt8) (p : Int) : (turn ins p).length = ins.length := by
  unfold turn; split <;> simp_all
theorem df_zero {rest ins : List UInt8} : ∀ (k : Nat), (∀ j, j < k → rest.getD j 0 = ins.getD (j % ins.length) 0) → df rest ins k = 0
  | 0, _ => rfl
  | k + 1, h => by
    rw [df, df_zero k (fun j hj => h j (by omega)), if_pos (h k (by omega))]; rfl
theorem df_one {rest ins : List UInt8} {q : Nat} : ∀ (k : Nat), (∀ j, j < k → j ≠ q → rest.getD j 0 = ins.getD (j % ins.length) 0) → (q < k → rest.getD q 0 ≠ ins.getD (q % ins.length) 0) → df rest ins k = if q < k then 1 else 0
  | 0, _, _ => by simp [df]
  | k + 1, h, hq => by
    rw [df, df_one k (fun j hj hne => h j (by omega) hne) (fun hlt => hq (by omega))]
    by_cases e : k = q
    · subst e
      rw [if_neg (by omega), if_neg (hq (by omega)), if_pos (by omega)]; rfl
    · rw [if_pos (h k (by omega) e)]
      by_cases e2 : q < k
      · rw [if_pos e2, if_pos (by omega)]; rfl
      · rw [if_neg e2, if_neg (by omega)]; rfl
theorem df_next (rest ins : List UInt8) {i : Int} (h : 0 ≤ i) : df rest ins (i + 1).toNat = df rest ins i.toNat + if rest.getD i.toNat 0 = ins.getD (i.toNat % ins.length) 0 then 0 else 1 := by
  rw [show (i + 1).toNat = i.toNat + 1 by omega, df]
theorem df_same (ins : List UInt8) : df ins ins ins.length = 0 :=
  df_zero _ fun j hj => by rw [Nat.mod_eq_of_lt hj]
theorem df_twice (ins : List UInt8) : df (ins ++ ins) ins (ins ++ ins).length = 0 :=
  df_zero _ fun j hj => by
    simp only [List.length_append] at hj
    by_cases h : j < ins.length
    · rw [Nat.mod_eq_of_lt h]
      simp [List.getD_eq_getElem?_getD, List.getElem?_append_left h]
    · have e : j % ins.length = j - ins.length := by
        rw [Nat.mod_eq_sub_mod (by omega), Nat.mod_eq_of_lt (by omega)]
      rw [e]
      simp [List.getD_eq_getElem?_getD, List.getElem?_append_right (show ins.length ≤ j by omega)]
theorem turn_place {ins : List UInt8} (h : ins ≠ []) (p : Int) : (p % ins.length).toNat < ins.length := by
  have : 0 < ins.length := List.length_pos_iff.2 h
  have h1 := Int.emod_nonneg p (b := ins.length) (by omega)
  have h2 := Int.emod_lt_of_pos p (b := ins.length) (by omega)
  omega
theorem df_turn (ins : List UInt8) (p : Int) : df (turn ins p) ins (turn ins p).length = ((min ins.length 1 : Nat) : Int) := by
  by_cases h : ins = []
  · subst h; rfl
  · have hq := turn_place h p
    rw [turn_length]
    unfold turn
    rw [if_neg h, df_one (q := (p % ins.length).toNat), if_pos hq]
    · have : 0 < ins.length := List.length_pos_iff.2 h
      omega
    · intro j hj hne
      rw [Nat.mod_eq_of_lt hj]
      simp [List.getD_eq_getElem?_getD, List.getElem?_set, Ne.symm hne]
    · intro _
      rw [Nat.mod_eq_of_lt hq]
      have e : (ins.set (p % ins.length).toNat (ins.getD (p % ins.length).toNat 0 ^^^ 255)).getD (p % ins.length).toNat 0 = ins.getD (p % ins.length).toNat 0 ^^^ 255 := by
        simp [List.getD_eq_getElem?_getD, List.getElem?_set, hq]
      rw [e]
      exact xor_ne _
theorem turn_turn (ins : List UInt8) (p : Int) : turn (turn ins p) p = ins := by
  by_cases h : ins = []
  · subst h; rfl
  · have hq := turn_place h p
    have h2 : turn ins p ≠ [] := fun e => by
      have := turn_length ins p
      rw [e] at this
      exact h (List.length_eq_zero_iff.1 this.symm)
    have e1 : turn (turn ins p) p = (turn ins p).set (p % (turn ins p).length).toNat ((turn ins p).getD (p % (turn ins p).length).toNat 0 ^^^ 255) := by
      have u : ∀ l : List UInt8, l ≠ [] → turn l p = l.set (p % l.length).toNat (l.getD (p % l.length).toNat 0 ^^^ 255) := fun l hl => by
        unfold turn; rw [if_neg hl]
      exact u _ h2
    rw [e1, turn_length]
    unfold turn
    rw [if_neg h]
    have e : (ins.set (p % ins.length).toNat (ins.getD (p % ins.length).toNat 0 ^^^ 255)).getD (p % ins.length).toNat 0 = ins.getD (p % ins.length).toNat 0 ^^^ 255 := by
      simp [List.getD_eq_getElem?_getD, List.getElem?_set, hq]
    rw [e, xor_xor, List.set_set]
    apply List.ext_getElem?
    intro j
    rw [List.getElem?_set]
    split
    · rename_i e; subst e
      simp [List.getD_eq_getElem?_getD, hq]
    · rfl
end Go.Wr
namespace Go.Wr
open Go
set_option linter.unusedVariables false
set_option linter.unusedSimpArgs false
/-- The document's way: byte by byte. -/
def rOut (ins : List UInt8) (what p : Int) (k : Nat) : List UInt8 := (List.range k).map fun (j : Nat) => if what = 4 ∧ (j : Int) = p % (ins.length : Int) then 255 - ins.getD j 0 else ins.getD j 0
theorem sub_u8 : ∀ x : UInt8, UInt8.ofNat (((255 - (x.toNat : Int)) % 256)).toNat = 255 - x := by
  intro x
  have : ∀ n : Fin 256, UInt8.ofNat ((255 - (n.val : Int)) % 256).toNat = 255 - UInt8.ofNat n.val := by decide +kernel
  have h := this ⟨x.toNat, x.toNat_lt⟩
  simpa using h
theorem sub_xor : ∀ x : UInt8, 255 - x = x ^^^ 255 := by
  intro x
  have : ∀ n : Fin 256, 255 - UInt8.ofNat n.val = UInt8.ofNat n.val ^^^ 255 := by decide +kernel
  have h := this ⟨x.toNat, x.toNat_lt⟩
  simpa using h
theorem rOut_succ (ins : List UInt8) (what p : Int) (k : Nat) : rOut ins what p (k + 1) = rOut ins what p k ++ [if what = 4 ∧ (k : Int) = p % (ins.length : Int) then 255 - ins.getD k 0 else ins.getD k 0] := by
  unfold rOut
  rw [List.range_succ, List.map_append]; rfl
theorem rOut_length (ins : List UInt8) (what p : Int) (k : Nat) : (rOut ins what p k).length = k := by simp [rOut]
theorem rOut_all (ins : List UInt8) (what p : Int) (hp : 0 ≤ p) : rOut ins what p ins.length = if what = 4 then turn ins p else ins := by
  apply List.ext_getElem?
  intro j
  unfold rOut
  rw [List.getElem?_map]
  by_cases hj : j < ins.length
  · rw [List.getElem?_range hj, Option.map_some]
    have hne : ins ≠ [] := fun e => by rw [e] at hj; simp at hj
    have hq := turn_place hne p
    have h0 := Int.emod_nonneg p (b := ins.length) (by omega)
    split
    · rename_i c
      rw [if_pos c.1]
      unfold turn
      rw [if_neg hne, show (p % (ins.length : Int)).toNat = j by omega, List.getElem?_set]
      simp [hj, sub_xor]
    · rename_i c
      split
      · rename_i c2
        unfold turn
        rw [if_neg hne, List.getElem?_set, if_neg (fun e => c ⟨c2, by omega⟩)]
        simp [List.getD_eq_getElem?_getD, hj]
      · simp [List.getD_eq_getElem?_getD, hj]
  · rw [List.getElem?_eq_none (by simpa using hj)]
    split
    · rw [List.getElem?_eq_none (by rw [turn_length]; omega)]; rfl
    · rw [List.getElem?_eq_none (by omega)]; rfl
end Go.Wr
namespace Go.Wr
open Go
set_option linter.unusedVariables false
set_option linter.unusedSimpArgs false
theorem turn_set {held ins : List UInt8} {p n : Int} (hne : ins ≠ []) (hn : n = (held.length : Int) + p % (ins.length : Int)) :
    (held ++ ins).set n.toNat ((held ++ ins).getD n.toNat 0 ^^^ 255) = held ++ turn ins p := by
  have hq := turn_place hne p
  have : 0 < ins.length := List.length_pos_iff.2 hne
  have h0 := Int.emod_nonneg p (b := ins.length) (by omega)
  have e : n.toNat = held.length + (p % (ins.length : Int)).toNat := by omega
  unfold turn
  rw [if_neg hne, e, List.set_append_right _ _ (by omega), Nat.add_sub_cancel_left]
  simp [List.getD_eq_getElem?_getD, List.getElem?_append_right]
end Go.Wr
namespace Go.Wr
open Go
set_option linter.unusedVariables false
set_option linter.unusedSimpArgs false
theorem app_get (l r : List UInt8) (i : Nat) : (l ++ r).getD (l.length + i) 0 = r.getD i 0 := by
  simp [List.getD_eq_getElem?_getD, List.getElem?_append_right]
theorem mod_nat {i : Int} {n : Nat} (h : 0 ≤ i) : (i % (n : Int)).toNat = i.toNat % n := by
  obtain ⟨k, rfl⟩ := Int.eq_ofNat_of_zero_le h
  simp
  rw [← Int.natCast_emod, Int.toNat_natCast]
theorem wOut_length (ins : List UInt8) (what p : Int) : (what = 0 ∧ (wOut ins what p).length = ins.length) ∨ (what = 2 ∧ (wOut ins what p).length = ins.length + ins.length) ∨ (what = 4 ∧ (wOut ins what p).length = ins.length) ∨ (what ≠ 0 ∧ what ≠ 2 ∧ what ≠ 4 ∧ (wOut ins what p).length = 0) := by
  unfold wOut
  by_cases h0 : what = 0
  · rw [if_pos h0]; exact .inl ⟨h0, rfl⟩
  · rw [if_neg h0]
    by_cases h2 : what = 2
    · rw [if_pos h2]; exact .inr (.inl ⟨h2, by simp⟩)
    · rw [if_neg h2]
      by_cases h4 : what = 4
      · rw [if_pos h4]; exact .inr (.inr (.inl ⟨h4, turn_length _ _⟩))
      · rw [if_neg h4]; exact .inr (.inr (.inr ⟨h0, h2, h4, rfl⟩))
theorem wOut_mod (ins : List UInt8) (what p : Int) : ((wOut ins what p).length : Int) % (max (ins.length : Int) 1) = 0 ∧ (wOut ins what p).length ≤ 2 * ins.length := by
  have h := wOut_length ins what p
  by_cases e : ins.length = 0
  · have : (wOut ins what p).length = 0 := by omega
    rw [this, e]
    exact ⟨by decide, by omega⟩
  · have hm : max (ins.length : Int) 1 = ins.length := by omega
    rw [hm]
    rcases h with ⟨-, h⟩ | ⟨-, h⟩ | ⟨-, h⟩ | ⟨-, -, -, h⟩ <;> rw [h]
    · exact ⟨Int.emod_self, by omega⟩
    · refine ⟨?_, by omega⟩
      rw [Int.natCast_add, Int.add_emod, Int.emod_self]; rfl
    · exact ⟨Int.emod_self, by omega⟩
    · exact ⟨by simp, by omega⟩
theorem df_out (ins : List UInt8) (what p : Int) (h : what ≠ 4) : df (wOut ins what p) ins (wOut ins what p).length = 0 := by
  unfold wOut
  by_cases h0 : what = 0
  · simp only [if_pos h0]; exact df_same ins
  · simp only [if_neg h0]
    by_cases h2 : what = 2
    · simp only [if_pos h2]; exact df_twice ins
    · simp only [if_neg h2, if_neg h]; rfl
theorem wE_zero {h i : Nat} {what p : Int} (e : wE h i what p = 0) : h ≤ 16384 ∧ i ≤ 16384 ∧ what ≤ 4 ∧ 0 ≤ p := by
  unfold wE at e
  split at e
  · cases e
  · split at e
    · cases e
    · omega
theorem wE_ok {h i : Nat} {what p : Int} (h1 : h ≤ 16384) (h2 : i ≤ 16384) (h3 : what ≤ 4) (h4 : 0 ≤ p) : wE h i what p = 0 := by
  unfold wE
  rw [if_neg (by omega), if_neg (by omega)]
theorem wOut4 (ins : List UInt8) {what : Int} (p : Int) (h : what = 4) : wOut ins what p = turn ins p := by
  subst h; rfl
end Go.Wr
