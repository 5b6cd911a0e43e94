import Derived.Test.YtcnnbofjgmohaaaDoorLdA
namespace Go.Fx
open Go
set_option linter.unusedVariables false
/- GAPS, IN PLAIN NUMBERS; AND HOW MANY BITS ARE SET. -/
def gOk (gu : Bool) (gh gp gc gl : Int) : Prop := (0 ≤ gh ∧ gh ≤ 1048576) ∧ (0 ≤ gp ∧ gp ≤ 1048576) ∧ (0 ≤ gc ∧ gc ≤ 1073741824) ∧ (if gu then gp = 0 ∧ gl % 2 = 1 else gh = 0 ∧ gl % 2 = 0)
instance (gu : Bool) (gh gp gc gl : Int) : Decidable (gOk gu gh gp gc gl) := by unfold gOk; cases gu <;> infer_instance
def gE (gu : Bool) (gh gp gc gl : Int) : Int := if gOk gu gh gp gc gl then 0 else 8
def nU (gu : Bool) (gh gp gc gl : Int) (up : Bool) : Bool := if gOk gu gh gp gc gl then up else false
def nH (gu : Bool) (gh gp gc gl : Int) (up : Bool) : Int := if gOk gu gh gp gc gl then (if up then min (gh + 1) 1048576 else 0) else 0
def nP (gu : Bool) (gh gp gc gl : Int) (up : Bool) : Int := if gOk gu gh gp gc gl then (if up then 0 else min (gp + 1) 1048576) else 0
def nC (gu : Bool) (gh gp gc gl : Int) (up : Bool) : Int := if gOk gu gh gp gc gl then (if up && !gu then min (gc + 1) 1073741824 else gc) else 0
def nL (gu : Bool) (gh gp gc gl : Int) (up : Bool) : Int := if gOk gu gh gp gc gl then (gl * 2 + if up then 1 else 0) % 18446744073709551616 else 0
/-- How many of the lowest n bits are set. -/
def cnt : Nat → Int → Int
  | 0, _ => 0
  | n + 1, x => x % 2 + cnt n (x / 2)
def shE (gu : Bool) (gh gp gc gl w : Int) : Int := if gOk gu gh gp gc gl then (if 1 ≤ w ∧ w ≤ 64 then 0 else 2) else 8
def shV (gu : Bool) (gh gp gc gl w : Int) : Int := if gOk gu gh gp gc gl ∧ 1 ≤ w ∧ w ≤ 64 then cnt w.toNat gl * 65536 / w else 0
def paE (gu : Bool) (gh gp gc gl w : Int) : Int := if gOk gu gh gp gc gl then (if 0 ≤ w ∧ w ≤ 1048576 then 0 else 2) else 8
def paV (gu : Bool) (gh gp gc gl w : Int) : Bool := decide (gOk gu gh gp gc gl ∧ (0 ≤ w ∧ w ≤ 1048576) ∧ gu = false ∧ w ≤ gp)

theorem gE_zero {gu : Bool} {gh gp gc gl : Int} : gE gu gh gp gc gl = 0 ↔ gOk gu gh gp gc gl := by unfold gE; split <;> simp_all
theorem gE_bad1 {gu : Bool} {gh gp gc gl : Int} (h : gh < 0 ∨ 1048576 < gh ∨ gp < 0 ∨ 1048576 < gp ∨ gc < 0 ∨ 1073741824 < gc) : gE gu gh gp gc gl = 8 := by
  unfold gE; rw [if_neg]; unfold gOk; omega
theorem gE_bad2 {gu : Bool} {gh gp gc gl : Int} (h : gu = true) (h2 : gp ≠ 0) : gE gu gh gp gc gl = 8 := by
  unfold gE; rw [if_neg]; unfold gOk; subst h; simp; omega
theorem gE_bad3 {gu : Bool} {gh gp gc gl : Int} (h : gu = false) (h2 : gh ≠ 0) : gE gu gh gp gc gl = 8 := by
  unfold gE; rw [if_neg]; unfold gOk; subst h; simp; omega
theorem gE_bad4 {gu : Bool} {gh gp gc gl r : Int} (hr : r = gl % 2) (h : ¬ gu = (r == 1)) : gE gu gh gp gc gl = 8 := by
  unfold gE; rw [if_neg]; unfold gOk; cases gu
  · simp at h; simp; omega
  · simp at h; simp; omega
theorem gE_good {gu : Bool} {gh gp gc gl r : Int} (h1 : (0 ≤ gh ∧ gh ≤ 1048576) ∧ (0 ≤ gp ∧ gp ≤ 1048576) ∧ (0 ≤ gc ∧ gc ≤ 1073741824)) (h2 : gu = true → gp = 0) (h3 : gu = false → gh = 0) (hr : r = gl % 2) (h : gu = (r == 1)) : gE gu gh gp gc gl = 0 := by
  unfold gE; rw [if_pos]; unfold gOk; cases gu
  · simp at h; simp; simp at h3; omega
  · simp at h; simp; simp at h2; omega
theorem next_bad {gu : Bool} {gh gp gc gl : Int} (up : Bool) (h : ¬ gE gu gh gp gc gl = 0) : nU gu gh gp gc gl up = false ∧ nH gu gh gp gc gl up = 0 ∧ nP gu gh gp gc gl up = 0 ∧ nC gu gh gp gc gl up = 0 ∧ nL gu gh gp gc gl up = 0 ∧ gE gu gh gp gc gl = 8 := by
  have h' := mt gE_zero.2 h
  simp [nU, nH, nP, nC, nL, gE, h']
theorem next_down {gu : Bool} {gh gp gc gl : Int} (h : gE gu gh gp gc gl = 0) : nU gu gh gp gc gl false = false ∧ nH gu gh gp gc gl false = 0 ∧ nP gu gh gp gc gl false = min (gp + 1) 1048576 ∧ nC gu gh gp gc gl false = gc ∧ nL gu gh gp gc gl false = (gl * 2) % 18446744073709551616 ∧ (0 ≤ gh ∧ gh ≤ 1048576) ∧ (0 ≤ gp ∧ gp ≤ 1048576) ∧ (0 ≤ gc ∧ gc ≤ 1073741824) := by
  have h' := gE_zero.1 h
  have h2 := h'
  unfold gOk at h2
  simp [nU, nH, nP, nC, nL, h', h2.1, h2.2.1, h2.2.2.1]
theorem next_up0 {gu : Bool} {gh gp gc gl : Int} (h : gE gu gh gp gc gl = 0) (hu : gu = false) : nU gu gh gp gc gl true = true ∧ nH gu gh gp gc gl true = min (gh + 1) 1048576 ∧ nP gu gh gp gc gl true = 0 ∧ nC gu gh gp gc gl true = min (gc + 1) 1073741824 ∧ nL gu gh gp gc gl true = (gl * 2 + 1) % 18446744073709551616 ∧ (0 ≤ gh ∧ gh ≤ 1048576) ∧ (0 ≤ gp ∧ gp ≤ 1048576) ∧ (0 ≤ gc ∧ gc ≤ 1073741824) := by
  have h' := gE_zero.1 h
  have h2 := h'
  unfold gOk at h2
  subst hu
  simp [nU, nH, nP, nC, nL, h', h2.1, h2.2.1, h2.2.2.1]
theorem next_up1 {gu : Bool} {gh gp gc gl : Int} (h : gE gu gh gp gc gl = 0) (hu : gu = true) : nU gu gh gp gc gl true = true ∧ nH gu gh gp gc gl true = min (gh + 1) 1048576 ∧ nP gu gh gp gc gl true = 0 ∧ nC gu gh gp gc gl true = gc ∧ nL gu gh gp gc gl true = (gl * 2 + 1) % 18446744073709551616 ∧ (0 ≤ gh ∧ gh ≤ 1048576) ∧ (0 ≤ gp ∧ gp ≤ 1048576) ∧ (0 ≤ gc ∧ gc ≤ 1073741824) := by
  have h' := gE_zero.1 h
  have h2 := h'
  unfold gOk at h2
  subst hu
  simp [nU, nH, nP, nC, nL, h', h2.1, h2.2.1, h2.2.2.1]
theorem may_code {gu : Bool} {gh gp gc gl r : Int} (h1 : (0 ≤ gh ∧ gh ≤ 1048576) ∧ (0 ≤ gp ∧ gp ≤ 1048576) ∧ (0 ≤ gc ∧ gc ≤ 1073741824)) (h2 : gu = true → gp = 0) (h3 : gu = false → gh = 0) (hr : r = gl % 2) : ((r == 1) == gu) = true ↔ gE gu gh gp gc gl = 0 := by
  rcases Decidable.em (gu = (r == 1)) with h | h
  · rw [gE_good h1 h2 h3 hr h, ← h]; simp
  · rw [gE_bad4 hr h]; simp; exact fun e => h e.symm
theorem pa_bad {gu : Bool} {gh gp gc gl w : Int} (h : ¬ gE gu gh gp gc gl = 0) : paV gu gh gp gc gl w = false ∧ paE gu gh gp gc gl w = 8 ∧ gE gu gh gp gc gl = 8 := by
  have h' := mt gE_zero.2 h
  simp [paV, paE, gE, h']
theorem pa_arg {gu : Bool} {gh gp gc gl w : Int} (h : gE gu gh gp gc gl = 0) (hw : w < 0 ∨ 1048576 < w) : paV gu gh gp gc gl w = false ∧ paE gu gh gp gc gl w = 2 := by
  have h' := gE_zero.1 h
  have hw' : ¬ (0 ≤ w ∧ w ≤ 1048576) := by omega
  simp [paV, paE, h', hw']
theorem pa_good {gu : Bool} {gh gp gc gl w : Int} (h : gE gu gh gp gc gl = 0) (hw : 0 ≤ w ∧ w ≤ 1048576) : (bif !gu then decide (gp ≥ w) else false) = paV gu gh gp gc gl w ∧ paE gu gh gp gc gl w = 0 := by
  have h' := gE_zero.1 h
  simp [paV, paE, h', hw]
theorem sh_bad {gu : Bool} {gh gp gc gl w : Int} (h : ¬ gE gu gh gp gc gl = 0) : shV gu gh gp gc gl w = 0 ∧ shE gu gh gp gc gl w = 8 ∧ gE gu gh gp gc gl = 8 := by
  have h' := mt gE_zero.2 h
  simp [shV, shE, gE, h']
theorem sh_arg {gu : Bool} {gh gp gc gl w : Int} (h : gE gu gh gp gc gl = 0) (hw : w < 1 ∨ 64 < w) : shV gu gh gp gc gl w = 0 ∧ shE gu gh gp gc gl w = 2 := by
  have h' := gE_zero.1 h
  have hw' : ¬ (1 ≤ w ∧ w ≤ 64) := by omega
  simp [shV, shE, h', hw']
theorem and_one (x : Int) (h0 : 0 ≤ x) (h1 : x ≤ 18446744073709551615) : bits .and .u64 x 1 = x % 2 := by
  rw [u64_and x 1 h0 (by omega) (by decide) (by decide)]
  have : x.toNat &&& (1 : Int).toNat = x.toNat % 2 := Nat.and_one_is_mod _
  rw [this]; omega
theorem or_one (x : Int) (h0 : 0 ≤ x) (h1 : x ≤ 18446744073709551615) (h2 : x % 2 = 0) : bits .or .u64 x 1 = x + 1 := by
  rw [u64_or x 1 h0 (by omega) (by decide) (by decide)]
  have : x.toNat ||| (1 : Int).toNat = x.toNat + 1 := nat_join 1 _ _ (by omega) (by decide)
  rw [this]; omega

/- How many bits are set: the code. -/
def cntN : Nat → Nat → Nat
  | 0, _ => 0
  | n + 1, x => x % 2 + cntN n (x / 2)
theorem cnt_nat : ∀ n x, cnt n ((x : Nat) : Int) = (cntN n x : Int)
  | 0, _ => rfl
  | n + 1, x => by
    have := cnt_nat n (x / 2)
    simp only [cnt, cntN]
    rw [show ((x : Int) / 2) = ((x / 2 : Nat) : Int) by omega, this]; omega
theorem cntN_add : ∀ m n x, cntN (m + n) x = cntN m x + cntN n (x / 2 ^ m)
  | 0, n, x => by simp [cntN]
  | m + 1, n, x => by
    rw [show m + 1 + n = (m + n) + 1 by omega]
    simp only [cntN]
    rw [cntN_add m n (x / 2), Nat.div_div_eq_div_mul, show 2 * 2 ^ m = 2 ^ (m + 1) by rw [Nat.pow_succ]; omega]; omega
theorem cntN_mod : ∀ n x, cntN n (x % 2 ^ n) = cntN n x
  | 0, _ => rfl
  | n + 1, x => by
    simp only [cntN]
    rw [← cntN_mod n (x / 2), ← cntN_mod n (x % 2 ^ (n + 1) / 2)]
    have h : x % 2 ^ (n + 1) / 2 % 2 ^ n = x / 2 % 2 ^ n := by
      rw [Nat.pow_succ, Nat.mul_comm, Nat.mod_mul_right_div_self, Nat.mod_mod]
    have h2 : x % 2 ^ (n + 1) % 2 = x % 2 := Nat.mod_mod_of_dvd _ ⟨2 ^ n, by rw [Nat.pow_succ]; omega⟩
    rw [h, h2]
theorem cntN_shift : ∀ k n y, cntN (k + n) (y * 2 ^ k) = cntN n y
  | 0, n, y => by simp
  | k + 1, n, y => by
    rw [show k + 1 + n = (k + n) + 1 by omega]
    simp only [cntN]
    rw [show y * 2 ^ (k + 1) = (y * 2 ^ k) * 2 by rw [Nat.pow_succ, Nat.mul_assoc], Nat.mul_mod_left, Nat.mul_div_cancel _ (by decide), cntN_shift k n y]; omega
theorem cntN_le : ∀ n x, cntN n x ≤ n
  | 0, _ => Nat.le_refl _
  | n + 1, x => by have := cntN_le n (x / 2); simp only [cntN]; omega
theorem cnt_bd (n : Nat) (x : Int) (h : 0 ≤ x) : 0 ≤ cnt n x ∧ cnt n x ≤ n := by
  obtain ⟨y, rfl⟩ := Int.eq_ofNat_of_zero_le h
  rw [cnt_nat]; have := cntN_le n y; omega
/-- The word, pushed up so that its lowest w bits are all that is left. -/
theorem cnt_top (w l : Int) (h : 1 ≤ w ∧ w ≤ 64) (hl : 0 ≤ l) : cnt 64 ((l * 2 ^ (64 - w).toNat) % 18446744073709551616) = cnt w.toNat l := by
  obtain ⟨y, rfl⟩ := Int.eq_ofNat_of_zero_le hl
  have e : ((y : Int) * 2 ^ (64 - w).toNat) % 18446744073709551616 = ((y * 2 ^ (64 - w).toNat % 2 ^ 64 : Nat) : Int) := by
    simp
  rw [e, cnt_nat, cnt_nat, cntN_mod]
  have := cntN_shift (64 - w).toNat w.toNat y
  rw [show (64 - w).toNat + w.toNat = 64 by omega] at this
  rw [this]

theorem and_split (a y c d : Nat) (ha : a < 256) (hc : c < 256) : (a + 256 * y) &&& (c + 256 * d) = (a &&& c) + 256 * (y &&& d) := by
  have h1 : ((a + 256 * y) &&& (c + 256 * d)) % 2 ^ 8 = a &&& c := by
    rw [Nat.and_mod_two_pow]; congr 1 <;> omega
  have h2 : ((a + 256 * y) &&& (c + 256 * d)) / 2 ^ 8 = y &&& d := by
    rw [Nat.and_div_two_pow]; congr 1 <;> omega
  omega
def msk (c : Nat) : Nat → Nat
  | 0 => 0
  | k + 1 => c + 256 * msk c k
def pA (k x : Nat) : Nat := ((x / 2) &&& msk 0x55 k) + (x &&& msk 0x55 k)
def pB (k x : Nat) : Nat := ((x / 4) &&& msk 0x33 k) + (x &&& msk 0x33 k)
def pC (k x : Nat) : Nat := (x / 16 + x) &&& msk 0x0f k
def bA (b : Nat) : Nat := ((b / 2) &&& 0x55) + (b &&& 0x55)
def bB (b : Nat) : Nat := ((b / 4) &&& 0x33) + (b &&& 0x33)
def bC (b : Nat) : Nat := (b / 16 + b) &&& 0x0f
theorem bA_lt : ∀ b : Fin 256, bA b.1 < 256 := by decide +kernel
theorem bB_lt : ∀ b : Fin 256, bB b.1 < 256 := by decide +kernel
theorem bAB : ∀ b : Fin 256, bB (bA b.1) % 16 ≤ 4 ∧ bB (bA b.1) / 16 ≤ 4 ∧ bC (bB (bA b.1)) = cntN 8 b.1 := by decide +kernel
theorem hA : ∀ b : Fin 256, ∀ r : Fin 2, (b.1 / 2 + 128 * r.1) &&& 0x55 = (b.1 / 2) &&& 0x55 := by decide +kernel
theorem hB : ∀ b : Fin 256, ∀ r : Fin 4, (b.1 / 4 + 64 * r.1) &&& 0x33 = (b.1 / 4) &&& 0x33 := by decide +kernel
theorem hC : ∀ b : Fin 256, ∀ r : Fin 5, (b.1 / 16 + b.1 + 16 * r.1) &&& 0x0f = (b.1 / 16 + b.1) &&& 0x0f := by decide +kernel
theorem pA_step (k b y : Nat) (hb : b < 256) : pA (k + 1) (b + 256 * y) = bA b + 256 * pA k y := by
  have hh := hA ⟨b, hb⟩ ⟨y % 2, by omega⟩
  dsimp only at hh
  simp only [pA, bA, msk]
  rw [show (b + 256 * y) / 2 = (b / 2 + 128 * (y % 2)) + 256 * (y / 2) by omega, and_split _ _ _ _ (by omega) (by decide), and_split _ _ _ _ hb (by decide), hh]
  omega
theorem pB_step (k b y : Nat) (hb : b < 256) : pB (k + 1) (b + 256 * y) = bB b + 256 * pB k y := by
  have hh := hB ⟨b, hb⟩ ⟨y % 4, by omega⟩
  dsimp only at hh
  simp only [pB, bB, msk]
  rw [show (b + 256 * y) / 4 = (b / 4 + 64 * (y % 4)) + 256 * (y / 4) by omega, and_split _ _ _ _ (by omega) (by decide), and_split _ _ _ _ hb (by decide), hh]
  omega
theorem pC_step (k b y : Nat) (hb : b < 256) (h1 : b % 16 ≤ 4) (h2 : b / 16 ≤ 4) (h3 : y % 16 ≤ 4) : pC (k + 1) (b + 256 * y) = bC b + 256 * pC k y := by
  have hh := hC ⟨b, hb⟩ ⟨y % 16, by omega⟩
  dsimp only at hh
  simp only [pC, bC, msk]
  rw [show (b + 256 * y) / 16 + (b + 256 * y) = (b / 16 + b + 16 * (y % 16)) + 256 * (y / 16 + y) by omega, and_split _ _ _ _ (by omega) (by decide), hh]
def pT (k x : Nat) : Nat := pC k (pB k (pA k x))
theorem pAB_low (k x : Nat) : pB k (pA k x) % 16 ≤ 4 := by
  cases k with
  | zero => simp [pA, pB, msk]
  | succ k =>
    have hb : x % 256 < 256 := Nat.mod_lt _ (by decide)
    have e : x = x % 256 + 256 * (x / 256) := by omega
    have h := (bAB ⟨_, hb⟩).1
    have hl : bA (x % 256) < 256 := bA_lt ⟨_, hb⟩
    rw [e, pA_step _ _ _ hb, pB_step _ _ _ hl]
    dsimp only at h
    omega
theorem pT_step (k x : Nat) : pT (k + 1) x = cntN 8 (x % 256) + 256 * pT k (x / 256) := by
  have hb : x % 256 < 256 := Nat.mod_lt _ (by decide)
  have e : x = x % 256 + 256 * (x / 256) := by omega
  have h := bAB ⟨_, hb⟩
  unfold pT
  conv => lhs; rw [e]
  rw [pA_step _ _ _ hb, pB_step _ _ _ (bA_lt ⟨_, hb⟩), pC_step _ _ _ (by have := bAB ⟨_, hb⟩; dsimp only at this; omega) h.1 h.2.1 (pAB_low _ _), h.2.2]
theorem cnt_bytes : ∀ k x, cntN (8 * (k + 1)) x = cntN 8 (x % 256) + cntN (8 * k) (x / 256) := fun k x => by
  rw [show 8 * (k + 1) = 8 + 8 * k by omega, cntN_add, ← cntN_mod 8 x]
theorem pT_8 (x : Nat) : ∃ a b c d e f g h : Nat, (a ≤ 8 ∧ b ≤ 8 ∧ c ≤ 8 ∧ d ≤ 8 ∧ e ≤ 8 ∧ f ≤ 8 ∧ g ≤ 8 ∧ h ≤ 8) ∧ pT 8 x = a + 256 * (b + 256 * (c + 256 * (d + 256 * (e + 256 * (f + 256 * (g + 256 * h)))))) ∧ cntN 64 x = a + (b + (c + (d + (e + (f + (g + h)))))) := by
  refine ⟨cntN 8 (x % 256), cntN 8 ((x / 256) % 256), cntN 8 (((x / 256) / 256) % 256), cntN 8 ((((x / 256) / 256) / 256) % 256), cntN 8 (((((x / 256) / 256) / 256) / 256) % 256), cntN 8 ((((((x / 256) / 256) / 256) / 256) / 256) % 256), cntN 8 (((((((x / 256) / 256) / 256) / 256) / 256) / 256) % 256), cntN 8 ((((((((x / 256) / 256) / 256) / 256) / 256) / 256) / 256) % 256), ⟨cntN_le 8 _, cntN_le 8 _, cntN_le 8 _, cntN_le 8 _, cntN_le 8 _, cntN_le 8 _, cntN_le 8 _, cntN_le 8 _⟩, ?_, ?_⟩
  · rw [pT_step 7, pT_step 6, pT_step 5, pT_step 4, pT_step 3, pT_step 2, pT_step 1, pT_step 0]
    have z : ∀ y, pT 0 y = 0 := fun y => by simp [pT, pC, msk]
    rw [z, Nat.mul_zero, Nat.add_zero]
  · rw [show 64 = 8 * (7 + 1) by decide, cnt_bytes 7, show 8 * 7 = 8 * (6 + 1) by decide, cnt_bytes 6, show 8 * 6 = 8 * (5 + 1) by decide, cnt_bytes 5, show 8 * 5 = 8 * (4 + 1) by decide, cnt_bytes 4, show 8 * 4 = 8 * (3 + 1) by decide, cnt_bytes 3, show 8 * 3 = 8 * (2 + 1) by decide, cnt_bytes 2, show 8 * 2 = 8 * (1 + 1) by decide, cnt_bytes 1]
    have c0 : cntN (8 * 1) (x / 256 / 256 / 256 / 256 / 256 / 256 / 256) = cntN 8 (x / 256 / 256 / 256 / 256 / 256 / 256 / 256 % 256) := (cntN_mod 8 (x / 256 / 256 / 256 / 256 / 256 / 256 / 256)).symm
    rw [c0]
theorem wrap_small (n : Int) (h0 : 0 ≤ n) (h1 : n ≤ 9223372036854775807) : IntKind.i64.wrap n = n := by
  simp [IntKind.wrap, IntKind.bits, IntKind.signed]; omega
theorem and_127 (n : Int) (h0 : 0 ≤ n) (h1 : n ≤ 9223372036854775807) : bits .and .i64 n 127 = n % 128 := by
  obtain ⟨a, rfl⟩ := Int.eq_ofNat_of_zero_le h0
  have e : a &&& 127 = a % 128 := Nat.and_two_pow_sub_one_eq_mod a 7
  show IntKind.i64.wrap ((BitVec.ofInt 64 (a : Int) &&& BitVec.ofInt 64 ((127 : Nat) : Int)).toNat : Int) = _
  rw [BitVec.toNat_and, ofInt_u64 a (by omega), ofInt_u64 127 (by decide), e, wrap_small _ (by omega) (by omega)]
  omega
set_option maxHeartbeats 1000000 in
theorem bytes_sum (a b c d e f g h s n34 n37 n40 n43 n46 n49 n55 : Int) (ua : 0 ≤ a ∧ a ≤ 8) (ub : 0 ≤ b ∧ b ≤ 8) (uc : 0 ≤ c ∧ c ≤ 8) (ud : 0 ≤ d ∧ d ≤ 8) (ue : 0 ≤ e ∧ e ≤ 8) (uf : 0 ≤ f ∧ f ≤ 8) (ug : 0 ≤ g ∧ g ≤ 8) (uh : 0 ≤ h ∧ h ≤ 8)
    (hs : s = a + 256 * (b + 256 * (c + 256 * (d + 256 * (e + 256 * (f + 256 * (g + 256 * (h)))))))) (q34 : n34 = s / 256) (q37 : n37 = s + n34) (q40 : n40 = n37 / 65536) (q43 : n43 = n37 + n40) (q46 : n46 = n43 / 4294967296) (q49 : n49 = n43 + n46) (q55 : n55 = n49 % 128) : n55 = a + (b + (c + (d + (e + (f + (g + h)))))) := by
  have e34 : n34 = b + 256 * (c + 256 * (d + 256 * (e + 256 * (f + 256 * (g + 256 * (h)))))) := by omega
  clear q34
  have e37 : n37 = (a + b) + 256 * ((b + c) + 256 * ((c + d) + 256 * ((d + e) + 256 * ((e + f) + 256 * ((f + g) + 256 * ((g + h) + 256 * (h))))))) := by rw [q37, hs, e34]; omega
  clear q37 hs e34
  have e40 : n40 = (c + d) + 256 * ((d + e) + 256 * ((e + f) + 256 * ((f + g) + 256 * ((g + h) + 256 * (h))))) := by omega
  clear q40
  have e43 : n43 = (a + b + c + d) + 256 * ((b + c + d + e) + 256 * ((c + d + e + f) + 256 * ((d + e + f + g) + 256 * ((e + f + g + h) + 256 * ((f + g + h) + 256 * ((g + h) + 256 * ((h)))))))) := by rw [q43, e37, e40]; omega
  clear q43 e37 e40
  have e46 : n46 = (e + f + g + h) + 256 * ((f + g + h) + 256 * ((g + h) + 256 * ((h)))) := by omega
  clear q46
  have e49 : n49 = (a + b + c + d + e + f + g + h) + 256 * ((b + c + d + e + f + g + h) + 256 * ((c + d + e + f + g + h) + 256 * ((d + e + f + g + h) + 256 * ((e + f + g + h) + 256 * ((f + g + h) + 256 * ((g + h) + 256 * ((h)))))))) := by rw [q49, e43, e46]; omega
  clear q49 e43 e46
  omega
set_option maxHeartbeats 1000000 in
theorem ones_code (x n1 n4 n7 n10 n13 n16 n19 n22 n25 n28 n31 n34 n37 n40 n43 n46 n49 n52 n55 : Int) (x0 : 0 ≤ x) (x1 : x ≤ 18446744073709551615)
    (q1 : n1 = x / 2) (q4 : n4 = bits BinOp.and IntKind.u64 n1 6148914691236517205) (q7 : n7 = bits BinOp.and IntKind.u64 x 6148914691236517205) (q10 : n10 = (n4 + n7) % 18446744073709551616)
    (q13 : n13 = n10 / 4) (q16 : n16 = bits BinOp.and IntKind.u64 n13 3689348814741910323) (q19 : n19 = bits BinOp.and IntKind.u64 n10 3689348814741910323) (q22 : n22 = (n16 + n19) % 18446744073709551616)
    (q25 : n25 = n22 / 16) (q28 : n28 = (n25 + n22) % 18446744073709551616) (q31 : n31 = bits BinOp.and IntKind.u64 n28 1085102592571150095)
    (f34 : n34 = n31 / 256) (q37 : n37 = (n31 + n34) % 18446744073709551616) (f40 : n40 = n37 / 65536) (q43 : n43 = (n37 + n40) % 18446744073709551616)
    (f46 : n46 = n43 / 4294967296) (q49 : n49 = (n43 + n46) % 18446744073709551616) (q52 : n52 = (n49 + 9223372036854775808) % 18446744073709551616 - 9223372036854775808) (f55 : n55 = n52 % 128) : n55 = cnt 64 x := by
  obtain ⟨y, rfl⟩ := Int.eq_ofNat_of_zero_le x0
  have m5 : msk 0x55 8 = 6148914691236517205 := by decide
  have m3 : msk 0x33 8 = 3689348814741910323 := by decide
  have mf : msk 0x0f 8 = 1085102592571150095 := by decide
  have f1 : n1 = ((y / 2 : Nat) : Int) := by omega
  have hy : y < 18446744073709551616 := by omega
  have g4 : n4 = (((y / 2) &&& 6148914691236517205 : Nat) : Int) := by rw [q4, f1]; exact u64_and_nat _ _ (by omega) (by decide)
  have g7 : n7 = ((y &&& 6148914691236517205 : Nat) : Int) := by rw [q7]; exact u64_and_nat _ _ (by omega) (by decide)
  have le1 : (y / 2) &&& 6148914691236517205 ≤ 6148914691236517205 := Nat.and_le_right
  have le2 : y &&& 6148914691236517205 ≤ 6148914691236517205 := Nat.and_le_right
  have f10 : n10 = ((pA 8 y : Nat) : Int) := by rw [q10, g4, g7]; simp only [pA, m5]; omega
  have hA' : pA 8 y < 18446744073709551616 := by simp only [pA, m5]; omega
  have f13 : n13 = ((pA 8 y / 4 : Nat) : Int) := by omega
  have g16 : n16 = (((pA 8 y / 4) &&& 3689348814741910323 : Nat) : Int) := by rw [q16, f13]; exact u64_and_nat _ _ (by omega) (by decide)
  have g19 : n19 = ((pA 8 y &&& 3689348814741910323 : Nat) : Int) := by rw [q19, f10]; exact u64_and_nat _ _ (by omega) (by decide)
  have le3 : (pA 8 y / 4) &&& 3689348814741910323 ≤ 3689348814741910323 := Nat.and_le_right
  have le4 : pA 8 y &&& 3689348814741910323 ≤ 3689348814741910323 := Nat.and_le_right
  have f22 : n22 = ((pB 8 (pA 8 y) : Nat) : Int) := by rw [q22, g16, g19]; simp only [pB, m3]; omega
  have hB' : pB 8 (pA 8 y) ≤ 7378697629483820646 := by simp only [pB, m3]; omega
  have f25 : n25 = ((pB 8 (pA 8 y) / 16 : Nat) : Int) := by omega
  have f28 : n28 = ((pB 8 (pA 8 y) / 16 + pB 8 (pA 8 y) : Nat) : Int) := by rw [q28, f25, f22]; omega
  have f31 : n31 = ((pT 8 y : Nat) : Int) := by rw [q31, f28]; simp only [pT, pC, mf]; exact u64_and_nat _ _ (by omega) (by decide)
  obtain ⟨a, b, c, d, e, f, g, h, ⟨u1, u2, u3, u4, u5, u6, u7, u8⟩, eT, eC⟩ := pT_8 y
  have f37 : n37 = n31 + n34 := by omega
  have f43 : n43 = n37 + n40 := by omega
  have f49 : n49 = n43 + n46 := by omega
  have f52 : n52 = n49 := by omega
  rw [cnt_nat, eC, bytes_sum a b c d e f g h n31 n34 n37 n40 n43 n46 n49 n55 (by omega) (by omega) (by omega) (by omega) (by omega) (by omega) (by omega) (by omega) (by rw [f31, eT]; simp) f34 f37 f40 f43 f46 f49 (by rw [f55, f52])]
  simp
theorem share_val {gu : Bool} {gh gp gc gl w c : Int} (h : gE gu gh gp gc gl = 0) (hw : 1 ≤ w ∧ w ≤ 64) (hl : 0 ≤ gl) (hc : c = cnt w.toNat gl) :
    divQ (ofI c) (ofI w) = shV gu gh gp gc gl w ∧ divE (ofI w) = shE gu gh gp gc gl w ∧ (0 ≤ shV gu gh gp gc gl w ∧ shV gu gh gp gc gl w ≤ 65536) ∧ shE gu gh gp gc gl w = 0 := by
  have b := cnt_bd w.toNat gl hl
  rw [← hc] at b
  have h' := gE_zero.1 h
  have hd := div_of (g := w) (m := c) (by omega) (by omega)
  have ev : shV gu gh gp gc gl w = c * 65536 / w := by unfold shV; rw [if_pos ⟨h', hw⟩, hc]
  have ee : shE gu gh gp gc gl w = 0 := by unfold shE; rw [if_pos h', if_pos hw]
  have := full_bd (g := w) (m := c) (by omega) (by omega) (by omega)
  exact ⟨by rw [ev]; exact hd.1, by rw [ee]; exact hd.2, by rw [ev]; exact this, ee⟩
theorem and_le (a b : Int) (h0 : 0 ≤ a) (h1 : a ≤ 18446744073709551615) (h2 : 0 ≤ b) (h3 : b ≤ 18446744073709551615) : bits .and .u64 a b ≤ b := by
  rw [u64_and a b h0 (by omega) h2 (by omega)]
  have : a.toNat &&& b.toNat ≤ b.toNat := Nat.and_le_right
  omega
theorem mod_le {a b : Int} (h0 : 0 ≤ a) (h1 : a ≤ b) : a % 18446744073709551616 ≤ b := by omega
abbrev GS := Bool × Int × Int × Int × Int
def gN (s : GS) (up : Bool) : GS := (nU s.1 s.2.1 s.2.2.1 s.2.2.2.1 s.2.2.2.2 up, nH s.1 s.2.1 s.2.2.1 s.2.2.2.1 s.2.2.2.2 up, nP s.1 s.2.1 s.2.2.1 s.2.2.2.1 s.2.2.2.2 up, nC s.1 s.2.1 s.2.2.1 s.2.2.2.1 s.2.2.2.2 up, nL s.1 s.2.1 s.2.2.1 s.2.2.2.1 s.2.2.2.2 up)
/-- Gaps behind ticks, from nothing on. -/
def gS (xs : List Bool) : GS := xs.foldl gN (false, 0, 0, 0, 0)
def gB (s : GS) : Prop := gE s.1 s.2.1 s.2.2.1 s.2.2.2.1 s.2.2.2.2 = 0 ∧ (0 ≤ s.2.2.2.2 ∧ s.2.2.2.2 ≤ 18446744073709551615)
theorem gN_ok {s : GS} (up : Bool) (h : gB s) : gB (gN s up) := by
  obtain ⟨u, a, b, c, l⟩ := s
  obtain ⟨h, hl⟩ := h
  dsimp only at h hl
  unfold gB gN
  dsimp only
  rw [gE_zero]
  have h' := gE_zero.1 h
  have hh := h'
  unfold gOk at hh
  cases up with
  | false =>
    have n := next_down h
    rw [n.1, n.2.1, n.2.2.1, n.2.2.2.1, n.2.2.2.2.1]
    unfold gOk
    simp only [Bool.false_eq_true, if_false, true_and]
    omega
  | true =>
    cases u with
    | false =>
      have n := next_up0 h rfl
      rw [n.1, n.2.1, n.2.2.1, n.2.2.2.1, n.2.2.2.2.1]
      unfold gOk
      simp only [if_true, true_and]
      omega
    | true =>
      have n := next_up1 h rfl
      rw [n.1, n.2.1, n.2.2.1, n.2.2.2.1, n.2.2.2.2.1]
      unfold gOk
      simp only [if_true, true_and]
      omega
theorem gS_snoc (xs : List Bool) (b : Bool) : gS (xs ++ [b]) = gN (gS xs) b := by unfold gS; rw [List.foldl_append]; rfl
theorem gS_ok : ∀ xs, gB (gS xs) := fun xs => by
  unfold gS
  have : ∀ (s : GS), gB s → gB (xs.foldl gN s) := by
    induction xs with
    | nil => exact fun s h => h
    | cons b r ih => exact fun s h => ih _ (gN_ok b h)
  exact this _ ⟨by decide, by decide⟩
theorem gS_bd (xs : List Bool) : (0 ≤ (gS xs).2.1 ∧ (gS xs).2.1 ≤ 1048576) ∧ (0 ≤ (gS xs).2.2.1 ∧ (gS xs).2.2.1 ≤ 1048576) ∧ (0 ≤ (gS xs).2.2.2.1 ∧ (gS xs).2.2.2.1 ≤ 1073741824) ∧ (0 ≤ (gS xs).2.2.2.2 ∧ (gS xs).2.2.2.2 ≤ 18446744073709551615) := by
  have h := gS_ok xs
  have h' := gE_zero.1 h.1
  unfold gOk at h'
  exact ⟨h'.1, h'.2.1, h'.2.2.1, h.2⟩
theorem gS_next {xs : List Bool} {i : Int} (h0 : 0 ≤ i) (h1 : i < xs.length) : gS (xs.take (i + 1).toNat) = gN (gS (xs.take i.toNat)) (xs.getD i.toNat false) := by
  rw [show (i + 1).toNat = i.toNat + 1 by omega, List.take_add_one, show xs[i.toNat]?.toList = [xs.getD i.toNat false] by
    rw [List.getElem?_eq_getElem (by omega), List.getD_eq_getElem?_getD, List.getElem?_eq_getElem (by omega)]; rfl, gS_snoc]
theorem beh_step {xs : List Bool} {v : Int × GS} {u : Bool} {h p c l n : Int} (h1 : (0 ≤ v.1 ∧ v.1 ≤ xs.length) ∧ v.2 = gS (xs.take v.1.toNat)) (hn : n = v.1 + 1) (hlt : v.1 < xs.length)
    (hu : u = nU v.2.1 v.2.2.1 v.2.2.2.1 v.2.2.2.2.1 v.2.2.2.2.2 (xs[v.1.toNat]?.getD false)) (hh : h = nH v.2.1 v.2.2.1 v.2.2.2.1 v.2.2.2.2.1 v.2.2.2.2.2 (xs.getD v.1.toNat false))
    (hp : p = nP v.2.1 v.2.2.1 v.2.2.2.1 v.2.2.2.2.1 v.2.2.2.2.2 (xs.getD v.1.toNat false)) (hc : c = nC v.2.1 v.2.2.1 v.2.2.2.1 v.2.2.2.2.1 v.2.2.2.2.2 (xs.getD v.1.toNat false))
    (hl : l = nL v.2.1 v.2.2.1 v.2.2.2.1 v.2.2.2.2.1 v.2.2.2.2.2 (xs.getD v.1.toNat false)) : (u, h, p, c, l) = gS (xs.take n.toNat) := by
  rw [hn, gS_next h1.1.1 hlt, ← h1.2, hu, hh, hp, hc, hl]
  rfl
theorem next_fac {gu : Bool} {gh gp gc gl : Int} (h : gE gu gh gp gc gl = 0) (up : Bool) : nU gu gh gp gc gl up = up ∧ gc ≤ nC gu gh gp gc gl up ∧ ∃ b : Int, (b = 0 ∨ b = 1) ∧ nL gu gh gp gc gl up = (gl * 2 + b) % 18446744073709551616 := by
  cases up with
  | false => have n := next_down h; exact ⟨n.1, by omega, 0, .inl rfl, by rw [n.2.2.2.2.1, Int.add_zero]⟩
  | true =>
    cases gu with
    | false => have n := next_up0 h rfl; exact ⟨n.1, by omega, 1, .inr rfl, n.2.2.2.2.1⟩
    | true => have n := next_up1 h rfl; exact ⟨n.1, by omega, 1, .inr rfl, n.2.2.2.2.1⟩
theorem cnt_next {w i j y z : Int} (h : i < w) (hj : j = i + 1) (hz : z = y / 2) : cnt (w - i).toNat y = y % 2 + cnt (w - j).toNat z := by
  subst hj hz
  rw [show (w - i).toNat = (w - (i + 1)).toNat + 1 by omega]
  rfl
end Go.Fx
