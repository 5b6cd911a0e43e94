import Derived.Test.YtcccenipmefkiaaRawC
namespace Go.Proofs.Ytcccenipmefkiaa
open Go Go.Eng Go.Proofs
set_option linter.unusedVariables false

theorem getL_putL (n w : Nat) : getL (putL n w) = n % 256 ^ w := by
  induction w with
  | zero => simp [putL, getL, Nat.mod_one]
  | succ w ih =>
    rw [putL_succ, getL_append, ih, putL_len, Nat.mod_pow_succ]
    have : (UInt8.ofNat (n / 256 ^ w)).toNat = n / 256 ^ w % 256 := by simp
    rw [this, Nat.mul_comm (256 ^ w)]

theorem read_small : ∀ (f i acc m : Nat) (rest : List UInt8), f + i = 10 → 0 < f → m < 2 ^ (64 - 7 * i) → (0 < i → 0 < m) → readG i acc (smallF f m ++ rest) = (acc + m * 128 ^ i, i + (smallF f m).length, 0)
  | 0, _, _, _, _, _, h, _, _ => absurd h (by decide)
  | f + 1, i, acc, m, rest, hf, _, hm, h0 => by
    unfold smallF
    by_cases h : m < 128
    · rw [if_pos h]
      have e : (UInt8.ofNat m).toNat = m := by simp; omega
      simp only [List.cons_append, List.nil_append, readG, e]
      rw [if_neg (by
        rintro ⟨rfl, h2⟩
        have : m < 2 := hm
        omega), if_pos h, if_neg (by rintro ⟨h1, h2⟩; have := h0 h2; omega), Nat.mod_eq_of_lt h]
      simp
    · rw [if_neg h]
      have e : (UInt8.ofNat (m % 128 + 128)).toNat = m % 128 + 128 := by simp; omega
      obtain ⟨s1, s2⟩ := small_step m i hm (by omega) (by omega)
      simp only [List.cons_append, readG, e]
      rw [if_neg (by rintro ⟨rfl, -⟩; omega), if_neg (by omega), read_small f (i + 1) _ (m / 128) rest (by omega) (by omega) s2 (fun _ => by omega)]
      have e2 : (m % 128 + 128) % 128 = m % 128 := by omega
      have e3 : m % 128 * 128 ^ i + m / 128 * 128 ^ (i + 1) = m * 128 ^ i := by
        rw [Nat.pow_succ, Nat.mul_comm (128 ^ i) 128, ← Nat.mul_assoc, ← Nat.add_mul]
        congr 1
        omega
      rw [e2, Nat.add_assoc, e3]
      simp
      omega
end Go.Proofs.Ytcccenipmefkiaa
