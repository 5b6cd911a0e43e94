import Derived.Test.YtcccenipmefkiaaRaw2
namespace Go.Proofs.Ytcccenipmefkiaa
open Go Go.Eng Go.Proofs

theorem xor_div16 (a b : Nat) : (a ^^^ b) / 16 = a / 16 ^^^ b / 16 := by
  have := Nat.shiftRight_xor_distrib (a := a) (b := b) (i := 4)
  simpa [Nat.shiftRight_eq_div_pow] using this
theorem xor_div2 (a b : Nat) : (a ^^^ b) / 2 = a / 2 ^^^ b / 2 := by
  have := Nat.shiftRight_xor_distrib (a := a) (b := b) (i := 1)
  simpa [Nat.shiftRight_eq_div_pow] using this
theorem xor_mod2 (a b : Nat) : (a ^^^ b) % 2 = (a + b) % 2 := by
  have h := @Nat.xor_mod_two_eq_one a b
  omega

theorem bitN_xor (a b : Nat) : bitN (a ^^^ b) = bitN a ^^^ bitN b := by
  unfold bitN
  rw [xor_mod2, xor_div2]
  have ha := Nat.mod_two_eq_zero_or_one a
  have hb := Nat.mod_two_eq_zero_or_one b
  rcases ha with ha | ha <;> rcases hb with hb | hb
  · rw [if_neg (by omega), if_neg (by omega), if_neg (by omega)]
  · rw [if_pos (by omega), if_neg (by omega), if_pos (by omega), Nat.xor_assoc]
  · rw [if_pos (by omega), if_pos (by omega), if_neg (by omega), Nat.xor_assoc, Nat.xor_assoc, Nat.xor_comm (b / 2)]
  · rw [if_neg (by omega), if_pos (by omega), if_pos (by omega)]
    rw [Nat.xor_assoc, ← Nat.xor_assoc 3988292384, Nat.xor_comm 3988292384 (b / 2), Nat.xor_assoc (b / 2), Nat.xor_self, Nat.xor_zero]
theorem iterN_xor (k a b : Nat) : iterN k (a ^^^ b) = iterN k a ^^^ iterN k b := by
  induction k with
  | zero => rfl
  | succ k ih => unfold iterN; rw [ih, bitN_xor]
theorem iterN_succ (k r : Nat) : iterN (k + 1) r = iterN k (bitN r) := by
  induction k with
  | zero => rfl
  | succ k ih => show bitN (iterN (k + 1) r) = bitN (iterN k (bitN r)); rw [ih]
theorem iterN_add (k j r : Nat) : iterN (k + j) r = iterN k (iterN j r) := by
  induction k with
  | zero => rw [Nat.zero_add]; rfl
  | succ k ih => rw [Nat.succ_add]; show bitN (iterN (k + j) r) = bitN (iterN k (iterN j r)); rw [ih]
theorem bitN_split (a : Nat) : bitN a = a / 2 ^^^ bitN (a % 2) := by
  unfold bitN
  have ha := Nat.mod_two_eq_zero_or_one a
  rcases ha with ha | ha <;> rw [ha]
  · rw [if_neg (by omega), if_neg (by omega)]; simp
  · rw [if_pos rfl, if_pos (by omega)]; simp
theorem iterN_high : ∀ (k q m : Nat), m < 2 ^ k → iterN k (2 ^ k * q + m) = q ^^^ iterN k m
  | 0, q, m, h => by
    have : m = 0 := by simpa using h
    subst this; simp [iterN]
  | k + 1, q, m, h => by
    have hp : 2 ^ (k + 1) = 2 * 2 ^ k := by rw [Nat.pow_succ, Nat.mul_comm]
    have e1 : (2 ^ (k + 1) * q + m) / 2 = 2 ^ k * q + m / 2 := by rw [hp, Nat.mul_assoc]; omega
    have e2 : (2 ^ (k + 1) * q + m) % 2 = m % 2 := by rw [hp, Nat.mul_assoc]; omega
    rw [iterN_succ, bitN_split, e1, e2, iterN_xor, iterN_high k q (m / 2) (by omega), Nat.xor_assoc, ← iterN_xor, ← bitN_split, ← iterN_succ]
theorem T_iter (m : Nat) (h : m < 16) : (T.getD m 0).toNat = iterN 4 m := by
  rcases m with _ | _ | _ | _ | _ | _ | _ | _ | _ | _ | _ | _ | _ | _ | _ | _ | m <;> first | rfl | omega
theorem iter4 (r : Nat) : iterN 4 r = r / 16 ^^^ (T.getD (r % 16) 0).toNat := by
  rw [T_iter _ (Nat.mod_lt _ (by decide)), ← iterN_high 4 (r / 16) (r % 16) (Nat.mod_lt _ (by decide))]
  congr 1
  omega
theorem nib_iter (r x : Nat) : iterN 4 (r ^^^ x) = nib r x ^^^ x / 16 := by
  rw [iter4, xor_div16, nib, Nat.xor_assoc, Nat.xor_comm (x / 16), ← Nat.xor_assoc]
theorem byte_iter (r x : Nat) (h : x < 256) : iterN 8 (r ^^^ x) = byteN r x := by
  rw [iterN_add 4 4, nib_iter, nib_iter]
  have : x / 16 / 16 = 0 := by omega
  rw [this, Nat.xor_zero]; rfl
theorem crc_same (xs : List UInt8) : crcR xs = crcN xs := by
  unfold crcR crcN
  congr 1
  funext r x
  exact byte_iter r _ x.toNat_lt
end Go.Proofs.Ytcccenipmefkiaa
