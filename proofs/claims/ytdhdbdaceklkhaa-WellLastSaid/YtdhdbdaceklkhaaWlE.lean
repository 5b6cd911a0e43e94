import Derived.Test.YtdhdbdaceklkhaaWlA
namespace Go.Fx
open Go
set_option linter.unusedVariables false
/- A LINK'S TICKS BEHIND OTHERS, BIT BY BIT. -/
def wF (b : Int) (xs : List Bool) : Int := xs.foldl wN b
theorem wF_next {b : Int} {xs : List Bool} {i n : Int} (h0 : 0 ≤ i) (h1 : i < xs.length) (hn : n = i + 1) : wF b (xs.take n.toNat) = wN (wF b (xs.take i.toNat)) (xs.getD i.toNat false) := by
  subst hn
  rw [take_next h0 h1]; unfold wF; rw [List.foldl_append]; rfl
theorem wN_bd (b : Int) (c : Bool) : 0 ≤ wN b c ∧ wN b c ≤ 18446744073709551615 := by unfold wN; omega
theorem wF_bd (b : Int) (xs : List Bool) (h : 0 ≤ b ∧ b ≤ 18446744073709551615) : 0 ≤ wF b xs ∧ wF b xs ≤ 18446744073709551615 := by
  unfold wF
  induction xs generalizing b with
  | nil => exact h
  | cons c r ih => exact ih _ (wN_bd b c)
def bitAt (b : Int) (xs : List Bool) (j : Nat) : Bool := if j < xs.length then xs[xs.length - 1 - j]?.getD false else b.toNat.testBit (j - xs.length)
theorem wF_bit (b : Int) (hb : 0 ≤ b ∧ b ≤ 18446744073709551615) (xs : List Bool) : ∀ n : Nat, n ≤ xs.length → ∀ j, j < 64 → (wF b (xs.take n)).toNat.testBit j = bitAt b (xs.take n) j
  | 0, _, j, hj => by simp [bitAt, wF]
  | n + 1, hn, j, hj => by
    have t := take_next (xs := xs) (i := (n : Int)) (by omega) (by omega)
    rw [show ((n : Int) + 1).toNat = n + 1 by omega, show ((n : Int)).toNat = n by omega] at t
    have ih := wF_bit b hb xs n (by omega)
    have bd := wF_bd b (xs.take n) hb
    have hl : (xs.take n).length = n := by simp; omega
    generalize xs.getD n false = c at t
    rw [t]
    have e : wF b (xs.take n ++ [c]) = wN (wF b (xs.take n)) c := by unfold wF; rw [List.foldl_append]; rfl
    rw [e]
    have e2 : (wN (wF b (xs.take n)) c).toNat = (2 * (wF b (xs.take n)).toNat + c.toNat) % 2 ^ 64 := by
      unfold wN; cases c <;> simp <;> omega
    rw [e2, Nat.testBit_mod_two_pow, decide_eq_true hj, Bool.true_and]
    cases j with
    | zero =>
      unfold bitAt
      rw [if_pos (by simp)]
      rw [show (xs.take n ++ [c]).length - 1 - 0 = n by simp; omega, List.getElem?_append_right (by omega), hl, Nat.sub_self]
      cases c <;> simp [Nat.testBit_zero] <;> omega
    | succ j =>
      have e3 : (2 * (wF b (xs.take n)).toNat + c.toNat).testBit (j + 1) = (wF b (xs.take n)).toNat.testBit j := by
        rw [Nat.testBit_succ]; congr 1; cases c <;> simp <;> omega
      rw [e3, ih j (by omega)]
      unfold bitAt
      have hl2 : (xs.take n ++ [c]).length = n + 1 := by simp; omega
      rw [hl, hl2]
      rcases Nat.lt_or_ge j n with h | h
      · rw [if_pos h, if_pos (by omega), List.getElem?_append_left (by omega), show n + 1 - 1 - (j + 1) = n - 1 - j by omega]
      · rw [if_neg (by omega), if_neg (by omega), show j + 1 - (n + 1) = j - n by omega]
theorem wF_bits (b : Int) (hb : 0 ≤ b ∧ b ≤ 18446744073709551615) (xs : List Bool) (j : Nat) (hj : j < 64) : (wF b xs).toNat.testBit j = bitAt b xs j := by
  have := wF_bit b hb xs xs.length (Nat.le_refl _) j hj
  rwa [List.take_length] at this
theorem wF_forgets {b : Int} (hb : 0 ≤ b ∧ b ≤ 18446744073709551615) {xs : List Bool} (h : 64 ≤ xs.length) : wF b xs = wF 0 xs := by
  have b1 := wF_bd b xs hb
  have b2 := wF_bd 0 xs (by decide)
  have : (wF b xs).toNat = (wF 0 xs).toNat := by
    apply Nat.eq_of_testBit_eq
    intro j
    rcases Nat.lt_or_ge j 64 with hj | hj
    · rw [wF_bits b hb xs j hj, wF_bits 0 (by decide) xs j hj]
      unfold bitAt
      rw [if_pos (by omega), if_pos (by omega)]
    · have hp : 2 ^ 64 ≤ 2 ^ j := Nat.pow_le_pow_right (by decide) hj
      rw [Nat.testBit_lt_two_pow (by omega), Nat.testBit_lt_two_pow (by omega)]
  omega
theorem cnt_more {x i n : Int} (h0 : 0 ≤ i) (hx : 0 ≤ x) (hn : n = i + 1) : cnt n.toNat x = cnt i.toNat x + (if x.toNat.testBit i.toNat then 1 else 0) := by
  subst hn
  obtain ⟨y, rfl⟩ := Int.eq_ofNat_of_zero_le hx
  rw [show (i + 1).toNat = i.toNat + 1 by omega, cnt_nat, cnt_nat, cntN_add]
  have e : cntN 1 (y / 2 ^ i.toNat) = (y / 2 ^ i.toNat) % 2 := by simp [cntN]
  rw [e]
  have t : y.testBit i.toNat = decide ((y / 2 ^ i.toNat) % 2 = 1) := by
    rw [Nat.testBit_eq_decide_div_mod_eq]
  simp only [Int.toNat_natCast]
  rcases Nat.mod_two_eq_zero_or_one (y / 2 ^ i.toNat) with h | h
  · rw [if_neg (by rw [t, h]; decide), h]; simp
  · rw [if_pos (by rw [t, h]; decide), h]; simp
theorem last_bit {b : Int} {xs : List Bool} {i m s q r : Int} (hb : 0 ≤ b) (hi : 0 ≤ i ∧ i < 64) (hm : m = xs.length - 1 - i) (hs : m < 0 → s = -1 - m) (hq : q = b.fdiv (2 ^ min s.toNat IntKind.u64.bits)) (hr : r = q.tmod 2) :
    bitAt b xs i.toNat = true ↔ (0 ≤ m ∧ xs[m.toNat]?.getD false = true) ∨ (m < 0 ∧ r = 1) := by
  unfold bitAt
  rcases Nat.lt_or_ge i.toNat xs.length with h | h
  · rw [if_pos h, show xs.length - 1 - i.toNat = m.toNat by omega]
    constructor
    · intro hx; exact .inl ⟨by omega, hx⟩
    · rintro (hx | hx)
      · exact hx.2
      · omega
  · have hs := hs (by omega)
    rw [if_neg (by omega)]
    obtain ⟨y, rfl⟩ := Int.eq_ofNat_of_zero_le hb
    have e : min s.toNat IntKind.u64.bits = i.toNat - xs.length := by simp only [IntKind.bits]; omega
    have e2 : q = ((y / 2 ^ (i.toNat - xs.length) : Nat) : Int) := by
      rw [hq, e, show (2 : Int) ^ (i.toNat - xs.length) = ((2 ^ (i.toNat - xs.length) : Nat) : Int) by simp, Int.fdiv_eq_ediv_of_nonneg _ (Int.natCast_nonneg _)]
      simp
    rw [e2, Int.tmod_eq_emod_of_nonneg (Int.natCast_nonneg _)] at hr
    simp only [Int.toNat_natCast]
    rw [Nat.testBit_eq_decide_div_mod_eq, decide_eq_true_eq]
    constructor
    · intro hx; exact .inr ⟨by omega, by omega⟩
    · rintro (hx | hx)
      · omega
      · omega
end Go.Fx
