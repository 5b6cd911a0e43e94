import Derived.Lib.TrailingZeros
import Derived.Test.YtcnnbofjgmohaaaDoorGpA
import Derived.Test.YtcnnbofjgmohaaaDoorRgA
namespace Go.Rg
open Go Go.Fx
set_option linter.unusedVariables false
set_option linter.unusedSimpArgs false
/-- The number whose bits are those of a, but bit i is t. -/
def sb (a i t : Nat) : Nat := 2 ^ i * (2 * (a / 2 ^ (i + 1)) + t) + a % 2 ^ i
theorem div_succ (a i : Nat) : a / 2 ^ (i + 1) = a / 2 ^ i / 2 := by rw [Nat.pow_succ, Nat.div_div_eq_div_mul]
theorem tb_eq (a i : Nat) : a.testBit i = decide (a / 2 ^ i % 2 = 1) := by
  rw [Nat.testBit_eq_decide_div_mod_eq]
theorem sb_tb (a i t j : Nat) (ht : t < 2) : (sb a i t).testBit j = if j = i then decide (t = 1) else a.testBit j := by
  unfold sb
  rw [Nat.testBit_two_pow_mul_add _ (Nat.mod_lt _ (Nat.two_pow_pos i))]
  by_cases h : j < i
  · rw [if_pos h, if_neg (by omega), Nat.testBit_mod_two_pow]; simp [h]
  · rw [if_neg h]
    obtain ⟨d, rfl⟩ : ∃ d, j = i + d := ⟨j - i, by omega⟩
    rw [Nat.add_sub_cancel_left]
    cases d with
    | zero => simp [tb_eq]; omega
    | succ d =>
      rw [if_neg (by omega), Nat.testBit_succ, show (2 * (a / 2 ^ (i + 1)) + t) / 2 = a / 2 ^ (i + 1) by omega, tb_eq, tb_eq, Nat.div_div_eq_div_mul, ← Nat.pow_add, show i + 1 + d = i + (d + 1) by omega]
theorem sb_val (a i t : Nat) : sb a i t + 2 ^ i * (a / 2 ^ i % 2) = a + 2 ^ i * t := by
  have h1 : a = 2 ^ i * (a / 2 ^ i) + a % 2 ^ i := (Nat.div_add_mod a (2 ^ i)).symm
  have h2 : a / 2 ^ i = 2 * (a / 2 ^ (i + 1)) + a / 2 ^ i % 2 := by rw [div_succ]; omega
  unfold sb
  generalize hq : a / 2 ^ (i + 1) = q at *
  generalize hp : 2 ^ i = p at *
  generalize hr : a / p % 2 = r at *
  rw [h2] at h1
  rw [Nat.mul_add] at h1 ⊢
  omega
theorem sb_or (a i : Nat) : a ||| 2 ^ i = sb a i 1 := by
  apply Nat.eq_of_testBit_eq
  intro j
  rw [sb_tb _ _ _ _ (by decide), Nat.testBit_or, Nat.testBit_two_pow]
  by_cases h : j = i
  · subst h; simp
  · have h' : ¬ i = j := fun e => h e.symm
    simp [h, h']
theorem and_pow (a i : Nat) : a &&& 2 ^ i = if a.testBit i then 2 ^ i else 0 := by
  apply Nat.eq_of_testBit_eq
  intro j
  rw [Nat.testBit_and, Nat.testBit_two_pow]
  by_cases h : i = j
  · subst h; cases a.testBit i <;> simp
  · cases a.testBit i <;> simp [h, Nat.testBit_two_pow]
/-- A number's bit. -/
def bitV (i : Int) : Int := if 0 ≤ i ∧ i ≤ 31 then ((2 ^ i.toNat : Nat) : Int) else 0
def hasB (s i : Int) : Bool := decide (0 ≤ i ∧ i ≤ 31) && s.toNat.testBit i.toNat
def withV (s i : Int) : Int := if 0 ≤ i ∧ i ≤ 31 then ((sb s.toNat i.toNat 1 : Nat) : Int) else s
def woV (s i : Int) : Int := if 0 ≤ i ∧ i ≤ 31 then ((sb s.toNat i.toNat 0 : Nat) : Int) else s
def leastV (s : Int) : Int := if s = 0 then -1 else ((Lib.ctz 32 s.toNat : Nat) : Int)
theorem pow31 {i : Nat} (h : i ≤ 31) : 2 ^ i ≤ 2147483648 := by
  have := Nat.pow_le_pow_right (n := 2) (by decide) h
  simpa using this
theorem bitV_bd (i : Int) : 0 ≤ bitV i ∧ bitV i ≤ 2147483648 := by
  unfold bitV
  split
  · have := @pow31 i.toNat (by omega)
    have h2 := Nat.two_pow_pos i.toNat
    generalize 2 ^ i.toNat = p at *
    omega
  · omega
theorem sb_lt (a i t : Nat) (ha : a < 4294967296) (hi : i ≤ 31) (ht : t < 2) : sb a i t < 4294967296 := by
  have : ∀ j, 32 ≤ j → (sb a i t).testBit j = false := fun j hj => by
    rw [sb_tb _ _ _ _ ht, if_neg (by omega)]
    exact Nat.testBit_lt_two_pow (Nat.lt_of_lt_of_le (show a < 2 ^ 32 from ha) (Nat.pow_le_pow_right (by decide) hj))
  exact Nat.lt_pow_two_of_testBit (n := 32) _ this
theorem withV_bd {s : Int} (i : Int) (h : 0 ≤ s ∧ s ≤ 4294967295) : 0 ≤ withV s i ∧ withV s i ≤ 4294967295 := by
  unfold withV; split
  · have := sb_lt s.toNat i.toNat 1 (by omega) (by omega) (by decide); omega
  · exact h
theorem woV_bd {s : Int} (i : Int) (h : 0 ≤ s ∧ s ≤ 4294967295) : 0 ≤ woV s i ∧ woV s i ≤ 4294967295 := by
  unfold woV; split
  · have := sb_lt s.toNat i.toNat 0 (by omega) (by omega) (by decide); omega
  · exact h
theorem has_sb (s i k : Int) (t : Nat) (ht : t < 2) (hi : 0 ≤ i ∧ i ≤ 31) : hasB ((sb s.toNat i.toNat t : Nat) : Int) k = if k = i then decide (t = 1) else hasB s k := by
  unfold hasB
  rw [Int.toNat_natCast, sb_tb _ _ _ _ ht]
  by_cases h : k = i
  · subst h; simp [hi]
  · rw [if_neg h]
    by_cases hk : 0 ≤ k ∧ k ≤ 31
    · rw [if_neg (by omega)]
    · simp [hk]
theorem has_out {s k : Int} (h : ¬ (0 ≤ k ∧ k ≤ 31)) : hasB s k = false := by simp [hasB, h]
theorem has_with (s i k : Int) : hasB (withV s i) k = if k = i then decide (0 ≤ i ∧ i ≤ 31) else hasB s k := by
  unfold withV
  by_cases hi : 0 ≤ i ∧ i ≤ 31
  · rw [if_pos hi, has_sb _ _ _ _ (by decide) hi]; simp [hi]
  · rw [if_neg hi]
    by_cases h : k = i
    · subst h; simp [hi, hasB]
    · rw [if_neg h]
theorem has_wo (s i k : Int) : hasB (woV s i) k = if k = i then false else hasB s k := by
  unfold woV
  by_cases hi : 0 ≤ i ∧ i ≤ 31
  · rw [if_pos hi, has_sb _ _ _ _ (by decide) hi]; simp
  · rw [if_neg hi]
    by_cases h : k = i
    · subst h; rw [has_out hi]; simp
    · rw [if_neg h]
theorem ctz_spec {x : Nat} (h0 : x ≠ 0) (h : x < 4294967296) : ∃ m, x = 2 ^ Lib.ctz 32 x * (2 * m + 1) ∧ Lib.ctz 32 x < 32 := by
  have := Lib.ctzFrom_spec 32 x (by omega) h
  simpa [Lib.ctz, h0] using this
theorem least_bd {s : Int} (h : 0 ≤ s ∧ s ≤ 4294967295) : -1 ≤ leastV s ∧ leastV s ≤ 31 := by
  unfold leastV
  split
  · omega
  · obtain ⟨m, -, h2⟩ := ctz_spec (x := s.toNat) (by omega) (by omega); omega
/-- What is left and what is made, where all below p were taken. -/
structure PInv (s p made left n : Nat) : Prop where
  hp : p ≤ 32
  hm : made = s % 2 ^ p
  hl : left = 2 ^ p * (s / 2 ^ p)
  hn : n = cntN p s
theorem pinv_start (s : Nat) : PInv s 0 0 s 0 := ⟨by decide, by simp; omega, by simp, by simp [cntN]⟩
theorem pinv_step {s p made left n : Nat} (h : PInv s p made left n) (hs : s < 4294967296) (h0 : left ≠ 0) :
    p ≤ Lib.ctz 32 left ∧ Lib.ctz 32 left ≤ 31 ∧ s.testBit (Lib.ctz 32 left) = true ∧ PInv s (Lib.ctz 32 left + 1) (sb made (Lib.ctz 32 left) 1) (sb left (Lib.ctz 32 left) 0) (n + 1) := by
  obtain ⟨hp, hm, hl, hn⟩ := h
  have hll : left < 4294967296 := by
    have := Nat.div_add_mod s (2 ^ p)
    omega
  obtain ⟨m, e, hk⟩ := ctz_spec h0 hll
  generalize Lib.ctz 32 left = k at *
  have hpk : p ≤ k := by
    rcases Nat.lt_or_ge k p with h | h
    · exfalso
      obtain ⟨d, rfl⟩ : ∃ d, p = k + (d + 1) := ⟨p - k - 1, by omega⟩
      rw [hl] at e
      have e1 : 2 ^ (k + (d + 1)) * (s / 2 ^ (k + (d + 1))) = 2 ^ k * (2 * (2 ^ d * (s / 2 ^ (k + (d + 1))))) := by
        rw [Nat.pow_add, Nat.pow_succ, Nat.mul_assoc, Nat.mul_comm (2 ^ d) 2, Nat.mul_assoc]
      rw [e1] at e
      have := Nat.eq_of_mul_eq_mul_left (Nat.two_pow_pos k) e
      omega
    · exact h
  obtain ⟨d, rfl⟩ : ∃ d, k = p + d := ⟨k - p, by omega⟩
  have eq : s / 2 ^ p = 2 ^ d * (2 * m + 1) := by
    rw [hl, Nat.pow_add, Nat.mul_assoc] at e
    exact Nat.eq_of_mul_eq_mul_left (Nat.two_pow_pos p) e
  have e1 : s / 2 ^ (p + d) = 2 * m + 1 := by
    rw [Nat.pow_add, ← Nat.div_div_eq_div_mul, eq, Nat.mul_div_cancel_left _ (Nat.two_pow_pos d)]
  have e2 : s / 2 ^ (p + d + 1) = m := by rw [div_succ, e1]; omega
  have hmlt : made < 2 ^ (p + d) := by
    rw [hm]
    exact Nat.lt_of_lt_of_le (Nat.mod_lt _ (Nat.two_pow_pos p)) (Nat.pow_le_pow_right (by decide) (by omega))
  have hsum : s = 2 ^ (p + d) * (2 * m + 1) + made := by
    have := Nat.div_add_mod s (2 ^ p)
    rw [← hm, eq, ← Nat.mul_assoc, ← Nat.pow_add] at this
    exact this.symm
  have hmod : s % 2 ^ (p + d + 1) = 2 ^ (p + d) + made := by
    have h1 := Nat.div_add_mod s (2 ^ (p + d + 1))
    rw [e2] at h1
    have h0 : 2 ^ (p + d + 1) * m = 2 ^ (p + d) * 2 * m := by rw [Nat.pow_succ]
    rw [h0] at h1
    have h2 : 2 ^ (p + d) * (2 * m + 1) = 2 ^ (p + d) * 2 * m + 2 ^ (p + d) := by rw [Nat.mul_add, Nat.mul_assoc, Nat.mul_one]
    omega
  refine ⟨hpk, by omega, by rw [tb_eq, e1]; simp, by omega, ?_, ?_, ?_⟩
  · unfold sb
    rw [Nat.div_eq_of_lt (Nat.lt_trans hmlt (Nat.pow_lt_pow_right (by decide) (by omega))), Nat.mod_eq_of_lt hmlt, hmod]; simp
  · unfold sb
    have l1 : left / 2 ^ (p + d) = 2 * m + 1 := by rw [e, Nat.mul_div_cancel_left _ (Nat.two_pow_pos _)]
    have l2 : left / 2 ^ (p + d + 1) = m := by rw [div_succ, l1]; omega
    rw [l2, e, Nat.mul_mod_right, e2, Nat.pow_succ, Nat.mul_assoc]; simp
  · rw [hn, show p + d + 1 = p + (d + 1) by omega, cntN_add, eq, Nat.mul_comm (2 ^ d), cntN_shift]
    simp [cntN]
theorem pinv_end {s p made n : Nat} (h : PInv s p made 0 n) : made = s ∧ n = cntN 32 s := by
  obtain ⟨hp, hm, hl, hn⟩ := h
  have e : s / 2 ^ p = 0 := by
    rcases Nat.eq_zero_or_pos (s / 2 ^ p) with h | h
    · exact h
    · have := Nat.mul_pos (Nat.two_pow_pos p) h; omega
  have := Nat.div_add_mod s (2 ^ p)
  refine ⟨by rw [e] at this; omega, ?_⟩
  have e3 := cntN_add p (32 - p) s
  have z : ∀ n, cntN n 0 = 0 := fun n => by
    induction n with
    | zero => rfl
    | succ n ih => simp [cntN, ih]
  rw [e, z, show p + (32 - p) = 32 by omega] at e3
  omega
end Go.Rg
