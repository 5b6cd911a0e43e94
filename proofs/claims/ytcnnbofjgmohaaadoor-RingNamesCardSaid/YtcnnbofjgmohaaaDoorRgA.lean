import Derived.Test.YtcnnbofjgmohaaaDoorEngW
namespace Go.Rg
open Go
set_option linter.unusedVariables false
set_option linter.unusedSimpArgs false

/-- Which place holds the number pushed i ago. -/
def rIx (n : Nat) (a i : Int) : Int := (a - 1 - i + 2 * (n : Int)) % (n : Int)
def rAt (n : Nat) (a : Int) (xs : List Int) (i : Int) : Int := xs.getD (rIx n a i).toNat 0
def atV (n : Nat) (a m : Int) (xs : List Int) (i : Int) : Int := if 0 ≤ i ∧ i < m then rAt n a xs i else 0
def atE (m i : Int) : Int := if 0 ≤ i ∧ i < m then 0 else 2
def allR (n : Nat) (a m : Int) (xs : List Int) (k : Nat) : List Int := (List.range k).map fun (j : Nat) => rAt n a xs (m - 1 - (j : Int))
def sumR (n : Nat) (a : Int) (xs : List Int) : Nat → Int
  | 0 => 0
  | k + 1 => sumR n a xs k + rAt n a xs (k : Int)
def clampS (s : Int) : Int := min (max s (-4611686018427387904)) 4611686018427387904

structure RInv (n : Nat) (a m : Int) (xs L : List Int) : Prop where
  n1 : 1 ≤ n
  len : xs.length = n
  ha : a = ((L.length % n : Nat) : Int)
  hm : m = ((min L.length n : Nat) : Int)
  el : ∀ p, p < L.length → L.length ≤ p + n → xs.getD (p % n) 0 = L.getD p 0

theorem rinv_new {n : Nat} (h : 1 ≤ n) : RInv n 0 0 (List.replicate n 0) [] :=
  ⟨h, by simp, by simp, by simp, fun p hp => by simp at hp⟩

theorem getD_set_ne {xs : List Int} {i j : Nat} {x : Int} (h : i ≠ j) : (xs.set i x).getD j 0 = xs.getD j 0 := by
  simp [List.getD_eq_getElem?_getD, List.getElem?_set, h]
theorem getD_set_eq {xs : List Int} {i : Nat} {x : Int} (h : i < xs.length) : (xs.set i x).getD i 0 = x := by
  simp [List.getD_eq_getElem?_getD, List.getElem?_set, h]

theorem mod_ne {n p N : Nat} (h1 : p < N) (h2 : N < p + n) : p % n ≠ N % n := fun e => by
  have h3 : (N - p) % n = 0 := Nat.sub_mod_eq_zero_of_mod_eq e.symm
  rw [Nat.mod_eq_of_lt (by omega)] at h3
  omega

theorem rinv_push {n : Nat} {a m : Int} {xs L : List Int} (h : RInv n a m xs L) (x : Int) :
    RInv n ((a + 1) % (n : Int)) (min (m + 1) (n : Int)) (xs.set a.toNat x) (L ++ [x]) := by
  obtain ⟨n1, len, ha, hm, el⟩ := h
  have hlt : L.length % n < n := Nat.mod_lt _ (by omega)
  refine ⟨n1, by simpa using len, ?_, ?_, fun p hp hq => ?_⟩
  · subst ha
    simp only [List.length_append, List.length_cons, List.length_nil]
    have : (((L.length % n : Nat) : Int) + 1) % (n : Int) = ((L.length % n + 1) % n : Nat) := by simp
    rw [this]
    congr 1
    simp [Nat.add_mod]
  · subst hm
    simp only [List.length_append, List.length_cons, List.length_nil]
    omega
  · simp only [List.length_append, List.length_cons, List.length_nil] at hp hq
    have ea : a.toNat = L.length % n := by omega
    rw [ea]
    by_cases e : p = L.length
    · subst e
      rw [getD_set_eq (by omega)]
      simp [List.getD_eq_getElem?_getD]
    · have hne := mod_ne (n := n) (p := p) (N := L.length) (by omega) (by omega)
      rw [getD_set_ne (Ne.symm hne), el p (by omega) (by omega)]
      simp [List.getD_eq_getElem?_getD, List.getElem?_append_left (show p < L.length by omega)]

theorem rIx_eq {n N : Nat} {a i : Int} (hn : 1 ≤ n) (ha : a = ((N % n : Nat) : Int)) (h0 : 0 ≤ i) (h1 : i < N) : (rIx n a i).toNat = (N - 1 - i.toNat) % n := by
  unfold rIx
  have hd : (N : Int) = (n : Int) * ((N / n : Nat) : Int) + ((N % n : Nat) : Int) := by
    have := Nat.div_add_mod N n
    omega
  have e : a - 1 - i + 2 * (n : Int) = ((N - 1 - i.toNat : Nat) : Int) + (n : Int) * (2 - ((N / n : Nat) : Int)) := by
    rw [Int.mul_sub]
    omega
  rw [e, Int.add_mul_emod_self_left]
  have : ((N - 1 - i.toNat : Nat) : Int) % (n : Int) = (((N - 1 - i.toNat) % n : Nat) : Int) := by simp
  rw [this]
  exact Int.toNat_natCast _

theorem rIx_lt {n : Nat} (hn : 1 ≤ n) (a i : Int) : 0 ≤ rIx n a i ∧ rIx n a i < n := by
  unfold rIx
  exact ⟨Int.emod_nonneg _ (by omega), Int.emod_lt_of_pos _ (by omega)⟩

theorem rAt_eq {n : Nat} {a m : Int} {xs L : List Int} (h : RInv n a m xs L) {i : Int} (h0 : 0 ≤ i) (h1 : i < m) : rAt n a xs i = L.getD (L.length - 1 - i.toNat) 0 := by
  obtain ⟨n1, len, ha, hm, el⟩ := h
  unfold rAt
  rw [rIx_eq (N := L.length) n1 ha h0 (by omega)]
  exact el _ (by omega) (by omega)

/-- The last numbers. -/
def lastL (n : Nat) (L : List Int) : List Int := L.drop (L.length - n)

theorem allR_eq {n : Nat} {a m : Int} {xs L : List Int} (h : RInv n a m xs L) {k : Nat} (hk : (k : Int) = m) : allR n a m xs k = lastL n L := by
  have hm := h.hm
  apply List.ext_getElem?
  intro j
  unfold allR lastL
  rw [List.getElem?_map, List.getElem?_drop]
  by_cases hj : j < k
  · rw [List.getElem?_range hj, Option.map_some, rAt_eq h (by omega) (by omega)]
    have e : L.length - 1 - (m - 1 - (j : Int)).toNat = L.length - n + j := by omega
    rw [e]
    have hlt : L.length - n + j < L.length := by omega
    simp [List.getD_eq_getElem?_getD, List.getElem?_eq_getElem hlt]
  · rw [List.getElem?_eq_none (by simpa using hj), List.getElem?_eq_none (by omega)]; rfl

theorem lastL_length (n : Nat) (L : List Int) : (lastL n L).length = min L.length n := by simp [lastL]; omega

theorem allR_succ (n : Nat) (a m : Int) (xs : List Int) (k : Nat) : allR n a m xs (k + 1) = allR n a m xs k ++ [rAt n a xs (m - 1 - (k : Int))] := by
  unfold allR
  rw [List.range_succ, List.map_append]; rfl
theorem allR_length (n : Nat) (a m : Int) (xs : List Int) (k : Nat) : (allR n a m xs k).length = k := by simp [allR]

/-- The sum of some. -/
def sumL : List Int → Int
  | [] => 0
  | x :: r => x + sumL r
theorem sumL_append (l r : List Int) : sumL (l ++ r) = sumL l + sumL r := by
  induction l with
  | nil => simp [sumL]
  | cons x l ih => simp [sumL, ih]; omega
theorem sumL_reverse (l : List Int) : sumL l.reverse = sumL l := by
  induction l with
  | nil => rfl
  | cons x l ih => rw [List.reverse_cons, sumL_append, ih]; simp [sumL]; omega
theorem drop_sum {L : List Int} {k : Nat} (h : k < L.length) : sumL (L.drop (L.length - (k + 1))) = sumL (L.drop (L.length - k)) + L.getD (L.length - 1 - k) 0 := by
  have e : L.length - (k + 1) < L.length := by omega
  rw [List.drop_eq_getElem_cons e, show L.length - (k + 1) + 1 = L.length - k by omega]
  simp only [sumL]
  have : L.getD (L.length - 1 - k) 0 = L[L.length - (k + 1)] := by
    rw [show L.length - 1 - k = L.length - (k + 1) by omega]
    simp [List.getD_eq_getElem?_getD, List.getElem?_eq_getElem e]
  omega

theorem sumR_eq {n : Nat} {a m : Int} {xs L : List Int} (h : RInv n a m xs L) : ∀ (k : Nat), (k : Int) ≤ m → sumR n a xs k = sumL (L.drop (L.length - k))
  | 0, _ => by simp [sumR, sumL]
  | k + 1, hk => by
    have hm := h.hm
    rw [sumR, sumR_eq h k (by omega), rAt_eq h (by omega) (by omega), drop_sum (by omega)]
    simp
theorem sumR_all {n : Nat} {a m : Int} {xs L : List Int} (h : RInv n a m xs L) : sumR n a xs m.toNat = sumL (lastL n L) := by
  have hm := h.hm
  rw [sumR_eq h m.toNat (by omega)]
  unfold lastL
  by_cases e : L.length ≤ n
  · rw [show L.length - m.toNat = 0 by omega, show L.length - n = 0 by omega]
  · rw [show L.length - m.toNat = L.length - n by omega]
theorem sumR_next (n : Nat) (a : Int) (xs : List Int) {i : Int} (h : 0 ≤ i) : sumR n a xs (i + 1).toNat = sumR n a xs i.toNat + rAt n a xs i := by
  rw [show (i + 1).toNat = i.toNat + 1 by omega, sumR, Int.toNat_of_nonneg h]
end Go.Rg
