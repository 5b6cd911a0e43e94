import Derived.Test.YtilbglkpbjamfaaFrJ
namespace Go.Fr
open Go Go.Eng Go.Rw
set_option linter.unusedVariables false
set_option linter.unusedSimpArgs false
/-- One bit of the document's sum. -/
def bit (r : Nat) : Nat := (r / 2) ^^^ (if r % 2 = 1 then 3988292384 else 0)
def bitK : Nat → Nat → Nat
  | 0, r => r
  | k + 1, r => bit (bitK k r)
theorem shr1_xor (a b : Nat) : (a ^^^ b) / 2 = (a / 2) ^^^ (b / 2) := by
  have := Nat.shiftRight_xor_distrib (a := a) (b := b) (i := 1)
  simp only [Nat.shiftRight_eq_div_pow] at this
  exact this
theorem mod2_xor (a b : Nat) : (a ^^^ b) % 2 = (a % 2) ^^^ (b % 2) := Nat.xor_mod_two_pow (n := 1)
theorem shr4_xor (a b : Nat) : (a ^^^ b) / 16 = (a / 16) ^^^ (b / 16) := by
  have := Nat.shiftRight_xor_distrib (a := a) (b := b) (i := 4)
  simp only [Nat.shiftRight_eq_div_pow] at this
  exact this
theorem bit_xor (a b : Nat) : bit (a ^^^ b) = bit a ^^^ bit b := by
  unfold bit
  rw [shr1_xor, mod2_xor]
  have ha : a % 2 = 0 ∨ a % 2 = 1 := by omega
  have hb : b % 2 = 0 ∨ b % 2 = 1 := by omega
  have com : ∀ p q u : Nat, (p ^^^ q) ^^^ u = (p ^^^ u) ^^^ q := fun p q u => by rw [Nat.xor_assoc, Nat.xor_comm q u, ← Nat.xor_assoc]
  rcases ha with ha | ha <;> rcases hb with hb | hb <;> rw [ha, hb]
  · simp
  · simp [Nat.xor_assoc]
  · simp [com]
  · show (a / 2 ^^^ b / 2) ^^^ 0 = (a / 2 ^^^ 3988292384) ^^^ (b / 2 ^^^ 3988292384)
    rw [Nat.xor_zero, ← Nat.xor_assoc (a / 2 ^^^ 3988292384) (b / 2) 3988292384, com (a / 2) 3988292384 (b / 2), Nat.xor_assoc, Nat.xor_self, Nat.xor_zero]
theorem bitK_xor : ∀ (k a b : Nat), bitK k (a ^^^ b) = bitK k a ^^^ bitK k b
  | 0, _, _ => rfl
  | k + 1, a, b => by rw [bitK, bitK, bitK, bitK_xor k, bit_xor]
theorem bit_even (q : Nat) : bit (2 * q) = q := by
  unfold bit
  rw [if_neg (by omega), Nat.xor_zero]; omega
theorem bit4_high (q : Nat) : bitK 4 (16 * q) = q := by
  show bit (bit (bit (bit (16 * q)))) = q
  rw [show 16 * q = 2 * (2 * (2 * (2 * q))) by omega, bit_even, bit_even, bit_even, bit_even]
theorem bit4_low : ∀ t : Fin 16, bitK 4 t.val = T.getD t.val 0 := by decide +kernel
theorem split16 (r : Nat) : r = (16 * (r / 16)) ^^^ (r % 16) := by
  have h := Nat.two_pow_add_eq_or_of_lt (i := 4) (a := r / 16) (b := r % 16) (by omega)
  apply eq_of16
  · rw [mod_xor, show 16 * (r / 16) % 16 = 0 by omega, Nat.zero_xor]; omega
  · rw [shr4_xor, show 16 * (r / 16) / 16 = r / 16 by omega, show r % 16 / 16 = 0 by omega, Nat.xor_zero]
theorem bit4 (r : Nat) : bitK 4 r = (r / 16) ^^^ T.getD (r % 16) 0 := by
  have h : r % 16 < 16 := by omega
  conv => lhs; rw [split16 r, bitK_xor, bit4_high]
  rw [show bitK 4 (r % 16) = T.getD (r % 16) 0 from bit4_low ⟨r % 16, h⟩]
theorem bitK_add (a : Nat) : ∀ (b r : Nat), bitK (b + a) r = bitK b (bitK a r)
  | 0, r => by rw [Nat.zero_add]; rfl
  | b + 1, r => by rw [show b + 1 + a = (b + a) + 1 by omega, bitK, bitK_add a b, bitK]
theorem bit8 {r b : Nat} (hb : b < 256) : bitK 8 (r ^^^ b) = stp r b := by
  rw [show (8 : Nat) = 4 + 4 from rfl, bitK_add 4 4, bit4 (r ^^^ b)]
  have e : ((r ^^^ b) / 16) ^^^ T.getD ((r ^^^ b) % 16) 0 = nib r b ^^^ (b / 16) := by
    unfold nib
    rw [shr4_xor, Nat.xor_assoc, Nat.xor_assoc, Nat.xor_comm (b / 16)]
  rw [e, bit4]
  rw [show stp r b = (nib r b / 16) ^^^ T.getD ((nib r b ^^^ b / 16) % 16) 0 from rfl, shr4_xor, show b / 16 / 16 = 0 by omega, Nat.xor_zero]
theorem bit_lt {r : Nat} (h : r < 4294967296) : bit r < 4294967296 := by
  unfold bit
  have h1 : r / 2 < 2 ^ 32 := by show r / 2 < 4294967296; omega
  split
  · exact Nat.xor_lt_two_pow h1 (by decide)
  · exact Nat.xor_lt_two_pow h1 (by decide)
theorem bitK_lt : ∀ (k : Nat) {r : Nat}, r < 4294967296 → bitK k r < 4294967296
  | 0, _, h => h
  | k + 1, _, h => bit_lt (bitK_lt k h)
/-- The document's way to make bytes bare. -/
def rb : List UInt8 → List UInt8
  | [] => []
  | [x] => [x]
  | x :: y :: r => if x = 125 ∧ (y = 93 ∨ y = 94) then (y + 32) :: rb r else x :: rb (y :: r)
theorem rb_stf : ∀ (u : List UInt8), rb (stf u) = u
  | [] => rfl
  | x :: u => by
    have e : stf (x :: u) = stf [x] ++ stf u := stf_app [x] u
    have ih := rb_stf u
    rw [e, stf_one]
    split
    · rename_i c
      show rb (125 :: (x - 32) :: stf u) = _
      rw [rb, if_pos ⟨rfl, by rcases c with rfl | rfl; exact .inl (by decide); exact .inr (by decide)⟩, ih]
      congr 1
      rcases c with rfl | rfl <;> decide
    · rename_i c
      show rb (x :: stf u) = _
      match h : stf u with
      | [] =>
        rw [h] at ih
        rw [← ih]; rfl
      | y :: t =>
        rw [rb, if_neg (fun h => c (.inl h.1)), ← h, ih]
theorem bare_rb {b : List UInt8} : (stf (rb b) = b → bare b = some (rb b)) ∧ (stf (rb b) ≠ b → bare b = none) := by
  refine ⟨fun h => ?_, fun h => ?_⟩
  · have := bare_stf (rb b)
    rwa [h] at this
  · cases e : bare b with
    | none => rfl
    | some u =>
      have := bare_back e
      rw [← this, rb_stf] at h
      exact absurd rfl h
theorem rb_len : ∀ (b : List UInt8), (rb b).length ≤ b.length
  | [] => Nat.le_refl _
  | [x] => Nat.le_refl _
  | x :: y :: r => by
    rw [rb]
    split
    · have := rb_len r
      simp only [List.length_cons]; omega
    · have := rb_len (y :: r)
      simp only [List.length_cons] at this ⊢; omega
theorem rb_step {b : List UInt8} {i : Nat} (h : i < b.length) : rb (b.drop i) = if b.getD i 0 = 125 ∧ i + 1 < b.length ∧ (b.getD (i + 1) 0 = 93 ∨ b.getD (i + 1) 0 = 94) then (b.getD (i + 1) 0 + 32) :: rb (b.drop (i + 2)) else b.getD i 0 :: rb (b.drop (i + 1)) := by
  have e1 : b.getD i 0 = b[i] := by rw [List.getD_eq_getElem?_getD, List.getElem?_eq_getElem h]; rfl
  rw [List.drop_eq_getElem_cons h, e1]
  by_cases c : i + 1 < b.length
  · have e2 : b.getD (i + 1) 0 = b[i + 1] := by rw [List.getD_eq_getElem?_getD, List.getElem?_eq_getElem c]; rfl
    rw [List.drop_eq_getElem_cons c, e2, rb]
    by_cases d : b[i] = 125 ∧ (b[i + 1] = 93 ∨ b[i + 1] = 94)
    · rw [if_pos d, if_pos ⟨d.1, c, d.2⟩]
    · rw [if_neg d, if_neg fun q => d ⟨q.1, q.2.2⟩]
  · rw [List.drop_of_length_le (by omega), if_neg fun q => c q.2.1]; rfl
end Go.Fr
