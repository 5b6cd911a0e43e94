import Derived.Test.YtcnnbofjgmohaaaDoorRgP
import Derived.Laws.Bits64b
import Derived.Lib.Tables
namespace Go.Rg
open Go Go.Fx
set_option linter.unusedVariables false
set_option linter.unusedSimpArgs false
theorem u32_wrap (n : Nat) (h : n < 4294967296) : IntKind.u32.wrap (n : Int) = (n : Int) := by
  simp [IntKind.wrap, IntKind.signed, IntKind.bits]; omega
theorem ofN (a : Nat) : BitVec.ofInt 32 (a : Int) = BitVec.ofNat 32 a := BitVec.ofInt_natCast 32 a
theorem u32_and (a b : Nat) (ha : a < 4294967296) (hb : b < 4294967296) : bits .and .u32 (a : Int) (b : Int) = ((a &&& b : Nat) : Int) := by
  have hx : a &&& b < 2 ^ 32 := Nat.and_lt_two_pow _ (by omega)
  show IntKind.u32.wrap ((BitVec.ofInt 32 (a : Int) &&& BitVec.ofInt 32 (b : Int)).toNat : Int) = _
  rw [ofN, ofN, BitVec.toNat_and, BitVec.toNat_ofNat, BitVec.toNat_ofNat, Nat.mod_eq_of_lt (show a < 2 ^ 32 from ha), Nat.mod_eq_of_lt (show b < 2 ^ 32 from hb)]
  exact u32_wrap _ hx
theorem u32_or (a b : Nat) (ha : a < 4294967296) (hb : b < 4294967296) : bits .or .u32 (a : Int) (b : Int) = ((a ||| b : Nat) : Int) := by
  have hx : a ||| b < 2 ^ 32 := Nat.or_lt_two_pow ha hb
  show IntKind.u32.wrap ((BitVec.ofInt 32 (a : Int) ||| BitVec.ofInt 32 (b : Int)).toNat : Int) = _
  rw [ofN, ofN, BitVec.toNat_or, BitVec.toNat_ofNat, BitVec.toNat_ofNat, Nat.mod_eq_of_lt (show a < 2 ^ 32 from ha), Nat.mod_eq_of_lt (show b < 2 ^ 32 from hb)]
  exact u32_wrap _ hx
theorem u32_not (a b : Nat) (ha : a < 4294967296) (hb : b < 4294967296) : ∃ c : Nat, bits .andNot .u32 (a : Int) (b : Int) = (c : Int) ∧ ∀ j, c.testBit j = (a.testBit j && !b.testBit j) := by
  refine ⟨(BitVec.ofNat 32 a &&& ~~~ BitVec.ofNat 32 b).toNat, ?_, fun j => ?_⟩
  · show IntKind.u32.wrap ((BitVec.ofInt 32 (a : Int) &&& ~~~ BitVec.ofInt 32 (b : Int)).toNat : Int) = _
    rw [ofN, ofN]
    exact u32_wrap _ (BitVec.isLt _)
  · rw [BitVec.testBit_toNat, BitVec.getLsbD_and, BitVec.getLsbD_not, BitVec.getLsbD_ofNat, BitVec.getLsbD_ofNat]
    by_cases h : j < 32
    · simp [h]
    · have : a.testBit j = false := Nat.testBit_lt_two_pow (Nat.lt_of_lt_of_le (show a < 2 ^ 32 from ha) (Nat.pow_le_pow_right (by decide) (by omega)))
      simp [this]
theorem bitV_nat {i : Int} (h : 0 ≤ i ∧ i ≤ 31) : bitV i = ((2 ^ i.toNat : Nat) : Int) := by unfold bitV; rw [if_pos h]
theorem bitV_out {i : Int} (h : ¬ (0 ≤ i ∧ i ≤ 31)) : bitV i = 0 := by unfold bitV; rw [if_neg h]
theorem pow32 {i : Int} (h : 0 ≤ i ∧ i ≤ 31) : 2 ^ i.toNat < 4294967296 := by have := @pow31 i.toNat (by omega); omega
theorem and_bit {s : Int} (i : Int) (h : 0 ≤ s ∧ s ≤ 4294967295) : bits .and .u32 s (bitV i) = if hasB s i then bitV i else 0 := by
  obtain ⟨s, rfl⟩ := Int.eq_ofNat_of_zero_le h.1
  by_cases hi : 0 ≤ i ∧ i ≤ 31
  · rw [bitV_nat hi, u32_and _ _ (by omega) (pow32 hi), and_pow]
    have : hasB (s : Int) i = s.testBit i.toNat := by simp [hasB, hi]
    rw [this]
    cases s.testBit i.toNat <;> rfl
  · rw [bitV_out hi, has_out hi, show (0 : Int) = ((0 : Nat) : Int) from rfl, u32_and _ _ (by omega) (by decide)]
    simp
theorem and_bit_ne {s : Int} (i : Int) (h : 0 ≤ s ∧ s ≤ 4294967295) : (bits .and .u32 s (bitV i) ≠ 0) ↔ hasB s i = true := by
  rw [and_bit i h]
  by_cases hb : hasB s i = true
  · have hi : 0 ≤ i ∧ i ≤ 31 := by
      rcases Decidable.em (0 ≤ i ∧ i ≤ 31) with h | h
      · exact h
      · rw [has_out h] at hb; cases hb
    rw [if_pos hb, bitV_nat hi]
    have := Nat.two_pow_pos i.toNat
    constructor
    · intro _; exact hb
    · intro _; omega
  · rw [if_neg hb]; simp [hb]
theorem or_bit {s : Int} (i : Int) (h : 0 ≤ s ∧ s ≤ 4294967295) : bits .or .u32 s (bitV i) = withV s i := by
  obtain ⟨s, rfl⟩ := Int.eq_ofNat_of_zero_le h.1
  unfold withV
  by_cases hi : 0 ≤ i ∧ i ≤ 31
  · rw [bitV_nat hi, u32_or _ _ (by omega) (pow32 hi), if_pos hi, sb_or, Int.toNat_natCast]
  · rw [bitV_out hi, if_neg hi, show (0 : Int) = ((0 : Nat) : Int) from rfl, u32_or _ _ (by omega) (by decide)]
    simp
theorem not_bit {s : Int} (i : Int) (h : 0 ≤ s ∧ s ≤ 4294967295) : bits .andNot .u32 s (bitV i) = woV s i := by
  obtain ⟨s, rfl⟩ := Int.eq_ofNat_of_zero_le h.1
  unfold woV
  by_cases hi : 0 ≤ i ∧ i ≤ 31
  · rw [bitV_nat hi, if_pos hi]
    obtain ⟨c, h1, h2⟩ := u32_not s (2 ^ i.toNat) (by omega) (pow32 hi)
    rw [h1, Int.toNat_natCast]
    congr 1
    apply Nat.eq_of_testBit_eq
    intro j
    rw [h2, sb_tb _ _ _ _ (by decide), Nat.testBit_two_pow]
    by_cases hj : j = i.toNat
    · subst hj; simp
    · have hj' : ¬ i.toNat = j := fun e => hj e.symm
      simp [hj, hj']
  · rw [bitV_out hi, if_neg hi]
    obtain ⟨c, h1, h2⟩ := u32_not s 0 (by omega) (by decide)
    rw [show (0 : Int) = ((0 : Nat) : Int) from rfl, h1]
    congr 1
    apply Nat.eq_of_testBit_eq
    intro j
    rw [h2]; simp
/-- The document's: a bit by division. -/
theorem has_div {s i : Int} (h : 0 ≤ s) (hi : 0 ≤ i ∧ i ≤ 31) : hasB s i = (s / 2 ^ i.toNat % 2 == 1) := by
  obtain ⟨s, rfl⟩ := Int.eq_ofNat_of_zero_le h
  unfold hasB
  rw [decide_eq_true hi, Bool.true_and, Int.toNat_natCast, tb_eq]
  have e : ((s : Int) / 2 ^ i.toNat % 2) = ((s / 2 ^ i.toNat % 2 : Nat) : Int) := by simp
  rw [e]
  by_cases h1 : s / 2 ^ i.toNat % 2 = 1
  · rw [h1]; rfl
  · rw [decide_eq_false h1]
    symm
    rw [beq_eq_false_iff_ne]
    omega
theorem with_add {s i : Int} (h : 0 ≤ s ∧ s ≤ 4294967295) (hi : 0 ≤ i ∧ i ≤ 31) (hb : hasB s i = false) : withV s i = s + 2 ^ i.toNat := by
  have e := has_div h.1 hi
  rw [hb] at e
  obtain ⟨s, rfl⟩ := Int.eq_ofNat_of_zero_le h.1
  unfold withV
  rw [if_pos hi, Int.toNat_natCast]
  have hv := sb_val s i.toNat 1
  have e2 : s / 2 ^ i.toNat % 2 = 0 := by
    have e' := e.symm
    rw [beq_eq_false_iff_ne] at e'
    have e3 : ((s : Int) / 2 ^ i.toNat % 2) = ((s / 2 ^ i.toNat % 2 : Nat) : Int) := by simp
    rw [e3] at e'; omega
  rw [e2] at hv
  have : sb s i.toNat 1 = s + 2 ^ i.toNat := by omega
  rw [this]; simp
theorem with_has {s i : Int} (h : 0 ≤ s) (hb : hasB s i = true) : withV s i = s := by
  have hi : 0 ≤ i ∧ i ≤ 31 := by
    rcases Decidable.em (0 ≤ i ∧ i ≤ 31) with h | h
    · exact h
    · rw [has_out h] at hb; cases hb
  have e := has_div h hi
  rw [hb] at e
  obtain ⟨s, rfl⟩ := Int.eq_ofNat_of_zero_le h
  unfold withV
  rw [if_pos hi, Int.toNat_natCast]
  have hv := sb_val s i.toNat 1
  have e2 : s / 2 ^ i.toNat % 2 = 1 := by
    have e' := e.symm
    rw [beq_iff_eq] at e'
    have e3 : ((s : Int) / 2 ^ i.toNat % 2) = ((s / 2 ^ i.toNat % 2 : Nat) : Int) := by simp
    rw [e3] at e'; omega
  rw [e2] at hv
  have : sb s i.toNat 1 = s := by omega
  rw [this]
theorem wo_sub {s i : Int} (h : 0 ≤ s) (hb : hasB s i = true) : woV s i = s - 2 ^ i.toNat := by
  have hi : 0 ≤ i ∧ i ≤ 31 := by
    rcases Decidable.em (0 ≤ i ∧ i ≤ 31) with h | h
    · exact h
    · rw [has_out h] at hb; cases hb
  have e := has_div h hi
  rw [hb] at e
  obtain ⟨s, rfl⟩ := Int.eq_ofNat_of_zero_le h
  unfold woV
  rw [if_pos hi, Int.toNat_natCast]
  have hv := sb_val s i.toNat 0
  have e2 : s / 2 ^ i.toNat % 2 = 1 := by
    have e' := e.symm
    rw [beq_iff_eq] at e'
    have e3 : ((s : Int) / 2 ^ i.toNat % 2) = ((s / 2 ^ i.toNat % 2 : Nat) : Int) := by simp
    rw [e3] at e'; omega
  rw [e2] at hv
  have : ((sb s i.toNat 0 : Nat) : Int) + ((2 ^ i.toNat : Nat) : Int) = (s : Int) := by omega
  rw [show ((2 : Int) ^ i.toNat) = ((2 ^ i.toNat : Nat) : Int) by simp]
  omega
theorem wo_not {s i : Int} (h : 0 ≤ s ∧ s ≤ 4294967295) (hb : hasB s i = false) : woV s i = s := by
  unfold woV
  split
  · rename_i hi
    have e := has_div h.1 hi
    rw [hb] at e
    obtain ⟨s, rfl⟩ := Int.eq_ofNat_of_zero_le h.1
    rw [Int.toNat_natCast]
    have hv := sb_val s i.toNat 0
    have e2 : s / 2 ^ i.toNat % 2 = 0 := by
      have e' := e.symm
      rw [beq_eq_false_iff_ne] at e'
      have e3 : ((s : Int) / 2 ^ i.toNat % 2) = ((s / 2 ^ i.toNat % 2 : Nat) : Int) := by simp
      rw [e3] at e'; omega
    rw [e2] at hv
    have : sb s i.toNat 0 = s := by omega
    rw [this]
  · rfl
theorem cnt_next {s i : Int} (h : 0 ≤ s) (hi : 0 ≤ i ∧ i ≤ 31) : cnt (i + 1).toNat s = cnt i.toNat s + if hasB s i then 1 else 0 := by
  rw [has_div h hi]
  obtain ⟨s, rfl⟩ := Int.eq_ofNat_of_zero_le h
  rw [show (i + 1).toNat = i.toNat + 1 by omega, cnt_nat, cnt_nat, cntN_add]
  have e3 : ((s : Int) / 2 ^ i.toNat % 2) = ((s / 2 ^ i.toNat % 2 : Nat) : Int) := by simp
  rw [e3]
  simp only [cntN, Nat.add_zero, beq_iff_eq]
  split <;> omega
theorem ctz_bits {x : Nat} (h0 : x ≠ 0) (h : x < 4294967296) : x.testBit (Lib.ctz 32 x) = true ∧ ∀ j, j < Lib.ctz 32 x → x.testBit j = false := by
  obtain ⟨m, e, hk⟩ := ctz_spec h0 h
  generalize Lib.ctz 32 x = k at *
  constructor
  · rw [tb_eq, e, Nat.mul_div_cancel_left _ (Nat.two_pow_pos k)]; simp
  · intro j hj
    obtain ⟨d, rfl⟩ : ∃ d, k = j + (d + 1) := ⟨k - j - 1, by omega⟩
    rw [tb_eq, e, Nat.pow_add, Nat.mul_assoc, Nat.mul_div_cancel_left _ (Nat.two_pow_pos j), Nat.pow_succ, Nat.mul_comm (2 ^ d) 2, Nat.mul_assoc]
    simp
theorem least_at {s i : Int} (h : 0 ≤ s ∧ s ≤ 4294967295) (hi : 0 ≤ i ∧ i ≤ 31) (hb : hasB s i = true) (hn : ∀ j : Int, 0 ≤ j → j < i → hasB s j = false) : leastV s = i := by
  obtain ⟨s, rfl⟩ := Int.eq_ofNat_of_zero_le h.1
  obtain ⟨i, rfl⟩ := Int.eq_ofNat_of_zero_le hi.1
  have hT : ∀ j : Nat, j ≤ 31 → hasB (s : Int) (j : Int) = s.testBit j := fun j hj => by
    unfold hasB; rw [decide_eq_true (by omega), Bool.true_and]; simp
  rw [hT i (by omega)] at hb
  have h0 : s ≠ 0 := by rintro rfl; simp at hb
  obtain ⟨h1, h2⟩ := ctz_bits h0 (by omega)
  obtain ⟨m, -, hk⟩ := ctz_spec h0 (by omega)
  unfold leastV
  rw [if_neg (by omega), Int.toNat_natCast]
  congr 1
  rcases Nat.lt_trichotomy (Lib.ctz 32 s) i with h | h | h
  · have := hn (Lib.ctz 32 s : Nat) (by omega) (by omega)
    rw [hT _ (by omega)] at this
    rw [this] at h1; cases h1
  · exact h
  · rw [h2 i h] at hb; cases hb
theorem least_none {s : Int} (h : 0 ≤ s ∧ s ≤ 4294967295) (hn : ∀ j : Int, 0 ≤ j → j < 32 → hasB s j = false) : leastV s = -1 := by
  obtain ⟨s, rfl⟩ := Int.eq_ofNat_of_zero_le h.1
  unfold leastV
  by_cases h0 : s = 0
  · rw [if_pos (by omega)]
  · obtain ⟨h1, h2⟩ := ctz_bits h0 (by omega)
    obtain ⟨m, -, hk⟩ := ctz_spec h0 (by omega)
    have := hn (Lib.ctz 32 s : Nat) (by omega) (by omega)
    unfold hasB at this
    rw [decide_eq_true (by omega), Bool.true_and] at this
    simp [h1] at this
theorem least_has {s : Int} (h : 0 ≤ s ∧ s ≤ 4294967295) (h0 : s ≠ 0) : hasB s (leastV s) = true := by
  obtain ⟨s, rfl⟩ := Int.eq_ofNat_of_zero_le h.1
  obtain ⟨h1, h2⟩ := ctz_bits (x := s) (by omega) (by omega)
  obtain ⟨m, -, hk⟩ := ctz_spec (x := s) (by omega) (by omega)
  unfold leastV hasB
  rw [if_neg h0, Int.toNat_natCast, Int.toNat_natCast, decide_eq_true (by omega), h1]; rfl
/-- What is left and made, of numbers. -/
def PI (s made left n last : Int) : Prop := PInv s.toNat (last + 1).toNat made.toNat left.toNat n.toNat
theorem PI_start {s : Int} (h : 0 ≤ s ∧ s ≤ 4294967295) : PI s 0 s 0 (-1) := pinv_start s.toNat
theorem PI_step {s made left n last : Int} (h : PI s made left n last) (hs : 0 ≤ s ∧ s ≤ 4294967295) (hm : 0 ≤ made) (hl : 0 ≤ left ∧ left ≤ 4294967295) (hn : 0 ≤ n) (hla : -1 ≤ last) (h0 : left ≠ 0) :
    last < leastV left ∧ leastV left ≤ 31 ∧ hasB s (leastV left) = true ∧ PI s (withV made (leastV left)) (woV left (leastV left)) (n + 1) (leastV left) ∧ n + 1 ≤ 32 := by
  obtain ⟨h1, h2, h3, h4⟩ := pinv_step h (by omega) (by omega)
  have e : leastV left = ((Lib.ctz 32 left.toNat : Nat) : Int) := by unfold leastV; rw [if_neg h0]
  rw [e]
  generalize Lib.ctz 32 left.toNat = k at *
  refine ⟨by omega, by omega, by unfold hasB; rw [decide_eq_true (by omega), Bool.true_and, Int.toNat_natCast]; exact h3, ?_, ?_⟩
  · unfold PI withV woV
    rw [if_pos (by omega), if_pos (by omega), Int.toNat_natCast, Int.toNat_natCast, Int.toNat_natCast, show ((k : Int) + 1).toNat = k + 1 by omega, show (n + 1).toNat = n.toNat + 1 by omega]
    exact h4
  · have := h4.hn
    have := cntN_le (k + 1) s.toNat
    omega
theorem PI_end {s made n last : Int} (h : PI s made 0 n last) (hs : 0 ≤ s) (hm : 0 ≤ made) (hn : 0 ≤ n) : made = s ∧ n = cnt 32 s := by
  obtain ⟨h1, h2⟩ := pinv_end h
  obtain ⟨s, rfl⟩ := Int.eq_ofNat_of_zero_le hs
  rw [cnt_nat]
  simp only [Int.toNat_natCast] at h1 h2
  omega

theorem shl_one {i : Int} (h : 0 ≤ i ∧ i ≤ 31) : (1 * 2 ^ min i.toNat IntKind.u32.bits : Int) % 4294967296 = bitV i := by
  rw [bitV_nat h, Int.one_mul, show min i.toNat IntKind.u32.bits = i.toNat from Nat.min_eq_left (by show i.toNat ≤ 32; omega)]
  have h1 := pow32 h
  have h2 := Nat.two_pow_pos i.toNat
  rw [show ((2 : Int) ^ i.toNat) = ((2 ^ i.toNat : Nat) : Int) by simp]
  generalize 2 ^ i.toNat = p at *
  omega
theorem bitV_pow {i : Int} (h : 0 ≤ i ∧ i ≤ 31) : bitV i = 2 ^ i.toNat := by rw [bitV_nat h]; simp
theorem has_ne {s : Int} (i : Int) (h : 0 ≤ s ∧ s ≤ 4294967295) : (bits .and .u32 s (bitV i) != 0) = hasB s i := by
  have := and_bit_ne i h
  cases hb : hasB s i
  · rw [hb] at this; simp at this; simp [this]
  · rw [hb] at this; simpa using this
theorem rhas_eq {s i n1 n2 n3 : Int} (hs : 0 ≤ s) (hi : -9223372036854775808 ≤ i ∧ i ≤ 9223372036854775807) (q1 : n1 = i % 18446744073709551616) (q2 : n2 = s.fdiv (2 ^ min n1.toNat IntKind.u32.bits)) (q3 : n3 = n2.tmod 2) :
    (bif bif decide (i ≥ 0) then decide (i < 32) else false then n3 == 1 else false) = hasB s i := by
  by_cases h : 0 ≤ i ∧ i ≤ 31
  · rw [show decide (i ≥ 0) = true by simp; omega, show decide (i < 32) = true by simp; omega, has_div hs h]
    have e : n1 = i := by omega
    subst e
    rw [show min n1.toNat IntKind.u32.bits = n1.toNat from Nat.min_eq_left (by show n1.toNat ≤ 32; omega), Int.fdiv_eq_ediv_of_nonneg _ (Int.pow_nonneg (by decide))] at q2
    have h2 : 0 ≤ n2 := by rw [q2]; exact Int.ediv_nonneg hs (Int.pow_nonneg (by decide))
    rw [q3, Int.tmod_eq_emod_of_nonneg h2, q2]; rfl
  · rw [has_out h]
    by_cases h0 : 0 ≤ i
    · rw [show decide (i < 32) = false by simp; omega]; cases decide (i ≥ 0) <;> rfl
    · rw [show decide (i ≥ 0) = false by simp; omega]; rfl
/-- How many bits a byte has. -/
def tabB (b : Int) : Int := ((Lib.pop8tab.data.toList.getD b.toNat 0).toNat : Int)
theorem pop_nat : ∀ b : Fin 256, (Lib.pop8tab.data.toList.getD b.1 0).toNat = cntN 8 b.1 := by decide +kernel
theorem and255 {x : Int} (h : 0 ≤ x ∧ x ≤ 4294967295) : bits .and .u32 x 255 = x % 256 := by
  obtain ⟨x, rfl⟩ := Int.eq_ofNat_of_zero_le h.1
  rw [show (255 : Int) = ((255 : Nat) : Int) from rfl, u32_and _ _ (by omega) (by decide), show (255 : Nat) = 2 ^ 8 - 1 from rfl, Nat.and_two_pow_sub_one_eq_mod]
  omega
theorem pop_eq {b : Int} (h : 0 ≤ b ∧ b ≤ 255) : ((Lib.pop8tab.data.toList.getD b.toNat 0).toNat : Int) = cntN 8 b.toNat := by
  exact congrArg (fun n : Nat => (n : Int)) (pop_nat ⟨b.toNat, by omega⟩)
theorem cnt_four {s : Int} (h : 0 ≤ s ∧ s ≤ 4294967295) : (cntN 8 (s / 16777216).toNat : Int) + cntN 8 (s / 65536 % 256).toNat + cntN 8 (s / 256 % 256).toNat + cntN 8 (s % 256).toNat = cnt 32 s := by
  obtain ⟨s, rfl⟩ := Int.eq_ofNat_of_zero_le h.1
  rw [cnt_nat]
  have e1 : cntN 32 s = cntN 8 (s % 256) + cntN 24 (s / 256) := cnt_bytes 3 s
  have e2 : cntN 24 (s / 256) = cntN 8 (s / 256 % 256) + cntN 16 (s / 256 / 256) := cnt_bytes 2 (s / 256)
  have e3 : cntN 16 (s / 256 / 256) = cntN 8 (s / 256 / 256 % 256) + cntN 8 (s / 256 / 256 / 256) := cnt_bytes 1 (s / 256 / 256)
  have e4 : cntN 8 (s / 256 / 256 / 256) = cntN 8 (s / 256 / 256 / 256 % 256) := (cntN_mod 8 _).symm
  have a1 : ((s : Int) / 16777216).toNat = s / 256 / 256 / 256 % 256 := by omega
  have a2 : ((s : Int) / 65536 % 256).toNat = s / 256 / 256 % 256 := by omega
  have a3 : ((s : Int) / 256 % 256).toNat = s / 256 % 256 := by omega
  have a4 : ((s : Int) % 256).toNat = s % 256 := by omega
  rw [a1, a2, a3, a4]
  omega
theorem sh24 {s : Int} : s.fdiv (2 ^ min (Int.toNat 24) IntKind.u32.bits) = s / 16777216 := by rw [Int.fdiv_eq_ediv_of_nonneg _ (Int.pow_nonneg (by decide))]; rfl
theorem sh16 {s : Int} : s.fdiv (2 ^ min (Int.toNat 16) IntKind.u32.bits) = s / 65536 := by rw [Int.fdiv_eq_ediv_of_nonneg _ (Int.pow_nonneg (by decide))]; rfl
theorem sh8 {s : Int} : s.fdiv (2 ^ min (Int.toNat 8) IntKind.u32.bits) = s / 256 := by rw [Int.fdiv_eq_ediv_of_nonneg _ (Int.pow_nonneg (by decide))]; rfl
end Go.Rg
