import Derived.Test.YtcnnbofjgmohaaaRgA
namespace Go.Rg
open Go
set_option linter.unusedVariables false
set_option linter.unusedSimpArgs false
theorem take_next {l : List Int} {i : Int} (h0 : 0 ≤ i) (h1 : i < l.length) : l.take (i + 1).toNat = l.take i.toNat ++ [l.getD i.toNat 0] := by
  have h : i.toNat < l.length := by omega
  rw [show (i + 1).toNat = i.toNat + 1 by omega, List.take_add_one, List.getElem?_eq_getElem h]
  simp [List.getD_eq_getElem?_getD, List.getElem?_eq_getElem h]
theorem lastL_get {n : Nat} {l : List Int} {i : Nat} : (lastL n l).getD i 0 = l.getD (l.length - n + i) 0 := by
  unfold lastL
  simp [List.getD_eq_getElem?_getD, List.getElem?_drop]
theorem lastL_full {n : Nat} {l : List Int} (h : l.length ≤ n) : lastL n l = l := by
  unfold lastL
  rw [show l.length - n = 0 by omega, List.drop_zero]
theorem rev_get {l : List Int} {i : Nat} (h : i < l.length) : l.reverse.getD i 0 = l.getD (l.length - 1 - i) 0 := by
  simp [List.getD_eq_getElem?_getD, List.getElem?_reverse h]
theorem sumL_next {l : List Int} {i : Int} (h0 : 0 ≤ i) (h1 : i < l.length) : sumL (l.take (i + 1).toNat) = sumL (l.take i.toNat) + l.getD i.toNat 0 := by
  rw [take_next h0 h1, sumL_append]; simp [sumL]
theorem tdiv_cases (x : Int) : (0 ≤ x ∧ x.tdiv 2147483648 = x / 2147483648) ∨ (x < 0 ∧ x.tdiv 2147483648 = -((-x) / 2147483648)) := by
  rcases Int.lt_or_le x 0 with h | h
  · refine .inr ⟨h, ?_⟩
    have : (-x).tdiv 2147483648 = (-x) / 2147483648 := Int.tdiv_eq_ediv_of_nonneg (by omega)
    rw [← this, Int.neg_tdiv, Int.neg_neg]
  · exact .inl ⟨h, Int.tdiv_eq_ediv_of_nonneg h⟩
theorem tmod_cases (x : Int) : x.tmod 2147483648 = x - x.tdiv 2147483648 * 2147483648 := by
  have := Int.tmod_add_mul_tdiv x 2147483648
  omega
theorem rinv_ok {n : Nat} {a m : Int} {xs L : List Int} (h : RInv n a m xs L) (h1 : n ≤ 1024) : (1 ≤ n ∧ n ≤ 1024) ∧ xs.length = n ∧ (0 ≤ a ∧ a < n) ∧ (0 ≤ m ∧ m ≤ n) := by
  obtain ⟨n1, len, ha, hm, el⟩ := h
  have := Nat.mod_lt L.length (show 0 < n by omega)
  exact ⟨⟨n1, h1⟩, len, by omega, by omega⟩
theorem at_eq {n : Nat} {a m : Int} {xs L : List Int} (h : RInv n a m xs L) (i : Int) : atV n a m xs i = (if 0 ≤ i ∧ i < (lastL n L).length then (lastL n L).getD ((lastL n L).length - 1 - i.toNat) 0 else 0) ∧ atE m i = if 0 ≤ i ∧ i < (lastL n L).length then 0 else 2 := by
  have hm := h.hm
  have hl := lastL_length n L
  have e : ((lastL n L).length : Int) = m := by omega
  unfold atV atE
  rw [e]
  refine ⟨?_, rfl⟩
  split
  · rename_i hi
    rw [rAt_eq h hi.1 hi.2, lastL_get]
    congr 1
    omega
  · rfl
end Go.Rg
