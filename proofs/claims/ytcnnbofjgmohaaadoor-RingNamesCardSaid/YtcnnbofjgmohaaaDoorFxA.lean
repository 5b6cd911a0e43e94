import Derived.WalkKit
import Derived.Laws.BitsAllLaws
import Derived.Laws.MathBits
namespace Go.Fx
set_option linter.unusedVariables false
set_option linter.unusedSimpArgs false
/-! Numbers of fixed parts, plainly. -/
def stopI (x : Int) : Int := min (max x (-70368744177664)) 70368744177664
def addI (a b : Int) : Int := stopI (stopI a + stopI b)
def subI (a b : Int) : Int := stopI (stopI a - stopI b)
def mulI (a b : Int) : Int := stopI (stopI a * stopI b / 65536)
def divQ (a b : Int) : Int := if stopI b = 0 then 0 else stopI ((stopI a * 65536).fdiv (stopI b))
def divE (b : Int) : Int := if stopI b = 0 then 10 else 0
def ofI (n : Int) : Int := min (max n (-1073741824)) 1073741824 * 65536
def roundI (x : Int) : Int := (stopI x + 32768) / 65536
def clampI (x lo hi : Int) : Int := if x < lo ∨ hi < lo then lo else if x > hi then hi else x
def mixI (o n p : Int) : Int := stopI o + (stopI n - stopI o) * clampI p 0 65536 / 65536

theorem stop_bd (x : Int) : -70368744177664 ≤ stopI x ∧ stopI x ≤ 70368744177664 := by unfold stopI; omega
theorem stop_id {x : Int} (h1 : -70368744177664 ≤ x) (h2 : x ≤ 70368744177664) : stopI x = x := by unfold stopI; omega
theorem stop_mono {x y : Int} (h : x ≤ y) : stopI x ≤ stopI y := by unfold stopI; omega
theorem stop_iff (x : Int) : (-70368744177664 ≤ x ∧ x ≤ 70368744177664) ↔ stopI x = x := by unfold stopI; omega
theorem clamp_bd (p : Int) : 0 ≤ clampI p 0 65536 ∧ clampI p 0 65536 ≤ 65536 := by unfold clampI; split <;> (try split) <;> omega
theorem clamp_mono {p q : Int} (h : p ≤ q) : clampI p 0 65536 ≤ clampI q 0 65536 := by
  unfold clampI; split <;> split <;> (try split) <;> (try split) <;> omega
theorem add_bd (a b : Int) : -70368744177664 ≤ addI a b ∧ addI a b ≤ 70368744177664 := stop_bd _
theorem sub_bd (a b : Int) : -70368744177664 ≤ subI a b ∧ subI a b ≤ 70368744177664 := stop_bd _
theorem mul_bd (a b : Int) : -70368744177664 ≤ mulI a b ∧ mulI a b ≤ 70368744177664 := stop_bd _
theorem div_bd (a b : Int) : -70368744177664 ≤ divQ a b ∧ divQ a b ≤ 70368744177664 := by
  unfold divQ; split
  · omega
  · exact stop_bd _
theorem of_bd (n : Int) : -70368744177664 ≤ ofI n ∧ ofI n ≤ 70368744177664 := by unfold ofI; omega
theorem round_bd (n : Int) : -1073741824 ≤ roundI n ∧ roundI n ≤ 1073741824 := by unfold roundI stopI; omega

/-- A product by a part, rounded down, lies between nothing and all. -/
theorem part_bd (d p : Int) (h0 : 0 ≤ p) (h1 : p ≤ 65536) : (0 ≤ d → 0 ≤ d * p / 65536 ∧ d * p / 65536 ≤ d) ∧ (d ≤ 0 → d ≤ d * p / 65536 ∧ d * p / 65536 ≤ 0) := by
  constructor
  · intro h
    have a1 : 0 ≤ d * p := Int.mul_nonneg h h0
    have a2 : d * p ≤ d * 65536 := Int.mul_le_mul_of_nonneg_left h1 h
    omega
  · intro h
    have a1 : d * p ≤ 0 := Int.mul_nonpos_of_nonpos_of_nonneg h h0
    have a2 : d * 65536 ≤ d * p := by
      have := Int.mul_le_mul_of_nonneg_left h1 (show 0 ≤ -d by omega)
      rw [Int.neg_mul, Int.neg_mul] at this
      omega
    omega
theorem mix_bd (o n p : Int) : -70368744177664 ≤ mixI o n p ∧ mixI o n p ≤ 70368744177664 := by
  have h1 := stop_bd o
  have h2 := stop_bd n
  obtain ⟨g1, g2⟩ := clamp_bd p
  have := part_bd (stopI n - stopI o) (clampI p 0 65536) g1 g2
  unfold mixI
  rcases Int.le_total 0 (stopI n - stopI o) with h | h
  · have := this.1 h; omega
  · have := this.2 h; omega
theorem mix_between (o n p : Int) : (stopI o ≤ stopI n → stopI o ≤ mixI o n p ∧ mixI o n p ≤ stopI n) ∧ (stopI n ≤ stopI o → stopI n ≤ mixI o n p ∧ mixI o n p ≤ stopI o) := by
  obtain ⟨g1, g2⟩ := clamp_bd p
  have := part_bd (stopI n - stopI o) (clampI p 0 65536) g1 g2
  unfold mixI
  constructor <;> intro h
  · have := this.1 (by omega); omega
  · have := this.2 (by omega); omega
theorem mix_mono (o n p q : Int) (h : p ≤ q) : (stopI o ≤ stopI n → mixI o n p ≤ mixI o n q) ∧ (stopI n ≤ stopI o → mixI o n q ≤ mixI o n p) := by
  have hc := clamp_mono h
  unfold mixI
  generalize clampI p 0 65536 = x at *
  generalize clampI q 0 65536 = y at *
  constructor <;> intro h
  · have := Int.mul_le_mul_of_nonneg_left hc (show 0 ≤ stopI n - stopI o by omega)
    omega
  · have := Int.mul_le_mul_of_nonneg_left hc (show 0 ≤ stopI o - stopI n by omega)
    have e1 : (stopI n - stopI o) * x = -((stopI o - stopI n) * x) := by rw [← Int.neg_mul]; congr 1; omega
    have e2 : (stopI n - stopI o) * y = -((stopI o - stopI n) * y) := by rw [← Int.neg_mul]; congr 1; omega
    rw [e1, e2]
    omega
theorem mix_zero (o n : Int) : mixI o n 0 = stopI o := by
  have : clampI 0 0 65536 = 0 := by decide
  unfold mixI; rw [this]; omega
theorem mix_one (o n : Int) : mixI o n 65536 = stopI n := by
  have : clampI 65536 0 65536 = 65536 := by decide
  unfold mixI; rw [this]; omega

theorem add_comm' (a b : Int) : addI a b = addI b a := by unfold addI; rw [Int.add_comm]
theorem mul_comm' (a b : Int) : mulI a b = mulI b a := by unfold mulI; rw [Int.mul_comm]
theorem add_zero' (a : Int) : addI a 0 = stopI a := by unfold addI stopI; omega
theorem mul_one' (a : Int) : mulI a 65536 = stopI a := by
  unfold mulI
  have : stopI 65536 = 65536 := by decide
  rw [this]
  have := stop_bd a
  rw [stop_id (by omega) (by omega)]; omega
theorem mul_zero' (a : Int) : mulI a 0 = 0 := by
  unfold mulI
  have : stopI 0 = 0 := by decide
  rw [this, Int.mul_zero]; decide
theorem sub_self' (a : Int) : subI a a = 0 := by unfold subI stopI; omega
theorem div_one' (a : Int) : divQ a 65536 = stopI a ∧ divE 65536 = 0 := by
  have e : stopI 65536 = 65536 := by decide
  unfold divQ divE
  rw [e, if_neg (by decide), if_neg (by decide)]
  have := stop_bd a
  refine ⟨?_, rfl⟩
  rw [Int.fdiv_eq_ediv_of_nonneg _ (by decide), stop_id (by omega) (by omega)]; omega

theorem add_mono {a b : Int} (c : Int) (h : a ≤ b) : addI a c ≤ addI b c := by
  have := stop_mono h
  exact stop_mono (by omega)
theorem sub_mono {a b : Int} (c : Int) (h : a ≤ b) : subI a c ≤ subI b c := by
  have := stop_mono h
  exact stop_mono (by omega)
theorem mul_mono {a b : Int} (c : Int) (h : a ≤ b) (hc : 0 ≤ c) : mulI a c ≤ mulI b c := by
  have h1 := stop_mono h
  have h2 : 0 ≤ stopI c := by unfold stopI; omega
  refine stop_mono ?_
  have := Int.mul_le_mul_of_nonneg_right h1 h2
  omega
theorem round_mono {a b : Int} (h : a ≤ b) : roundI a ≤ roundI b := by
  have := stop_mono h
  unfold roundI; omega

/-- Small numbers, exactly. -/
theorem div_near (a b : Int) (h1 : -1073741824 ≤ a) (h2 : a ≤ 1073741824) (h3 : 1 ≤ b) (h4 : b ≤ 1073741824) :
    divE b = 0 ∧ divQ a b * b ≤ a * 65536 ∧ a * 65536 < (divQ a b + 1) * b ∧ -70368744177664 - 1073741824 ≤ divQ a b * b ∧ divQ a b * b ≤ 70368744177664 ∧ -70368744177664 - 1073741824 ≤ (divQ a b + 1) * b ∧ (divQ a b + 1) * b ≤ 70368744177664 + 1073741824 := by
  have ea : stopI a = a := stop_id (by omega) (by omega)
  have eb : stopI b = b := stop_id (by omega) (by omega)
  unfold divE divQ
  rw [ea, eb, if_neg (by omega), if_neg (by omega), Int.fdiv_eq_ediv_of_nonneg _ (by omega)]
  have k1 : a * 65536 / b * b ≤ a * 65536 := Int.ediv_mul_le _ (by omega)
  have k2 : a * 65536 < (a * 65536 / b + 1) * b := Int.lt_ediv_add_one_mul_self _ (by omega)
  have e3 : (a * 65536 / b + 1) * b = a * 65536 / b * b + b := by rw [Int.add_mul, Int.one_mul]
  have q1 : -70368744177664 ≤ a * 65536 / b := by
    by_cases h : a * 65536 / b < -70368744177664
    · exfalso
      have : (a * 65536 / b + 1) * b ≤ (-70368744177664) * b := Int.mul_le_mul_of_nonneg_right (by omega) (by omega)
      omega
    · omega
  have q2 : a * 65536 / b ≤ 70368744177664 := by
    by_cases h : 70368744177664 < a * 65536 / b
    · exfalso
      have : 70368744177665 * b ≤ a * 65536 / b * b := Int.mul_le_mul_of_nonneg_right (by omega) (by omega)
      omega
    · omega
  rw [stop_id q1 q2]
  refine ⟨rfl, k1, k2, ?_, ?_, ?_, ?_⟩ <;> omega
theorem mul_near (a b : Int) (h1 : -1073741824 ≤ a) (h2 : a ≤ 1073741824) (h3 : 1 ≤ b) (h4 : b ≤ 1073741824) :
    mulI a b * 65536 ≤ a * b ∧ a * b < (mulI a b + 1) * 65536 ∧ -1152921504606846976 ≤ a * b ∧ a * b ≤ 1152921504606846976 := by
  have ea : stopI a = a := stop_id (by omega) (by omega)
  have eb : stopI b = b := stop_id (by omega) (by omega)
  have k1 : a * b ≤ 1073741824 * b := Int.mul_le_mul_of_nonneg_right h2 (by omega)
  have k2 : -1073741824 * b ≤ a * b := Int.mul_le_mul_of_nonneg_right h1 (by omega)
  unfold mulI
  rw [ea, eb]
  generalize a * b = z at *
  rw [stop_id (by omega) (by omega)]
  omega
theorem round_near (a : Int) (h1 : -1073741824 ≤ a) (h2 : a ≤ 1073741824) : roundI a * 65536 - a ≤ 32768 ∧ a - roundI a * 65536 < 32769 ∧ roundI (ofI a) = a := by
  unfold roundI ofI stopI; omega

/-- A quotient rounded down, out of one rounded towards nothing. -/
theorem floor_of (a b : Int) (hb0 : b ≠ 0) : a.fdiv b = if a.tmod b ≠ 0 ∧ ¬ ((a < 0) ↔ (b < 0)) then a.tdiv b - 1 else a.tdiv b := by
  have e := Int.tdiv_eq_fdiv (a := a) (b := b)
  have hd : b ∣ a ↔ a.tmod b = 0 := Int.dvd_iff_tmod_eq_zero
  generalize a.tmod b = m at *
  generalize a.tdiv b = q at *
  by_cases h : m = 0
  · rw [if_pos (hd.2 h)] at e
    rw [if_neg (by simp [h])]; omega
  · rw [if_neg (fun e => h (hd.1 e))] at e
    by_cases ha : 0 ≤ a
    · rw [if_pos ha] at e
      by_cases hb : 0 ≤ b
      · rw [if_pos hb] at e; rw [if_neg (by omega)]; omega
      · rw [if_neg hb] at e; rw [if_pos (by omega)]; omega
    · rw [if_neg ha] at e
      by_cases hb : 0 ≤ b
      · rw [if_pos hb, Int.sign_eq_one_of_pos (by omega)] at e; rw [if_pos (by omega)]; omega
      · rw [if_neg hb, Int.sign_eq_neg_one_of_neg (by omega)] at e; rw [if_neg (by omega)]; omega
theorem tdiv_bd (a b : Int) (A : Int) (h : -A ≤ a ∧ a ≤ A) : -A ≤ a.tdiv b ∧ a.tdiv b ≤ A := by
  have h1 : (a.tdiv b).natAbs ≤ a.natAbs := by
    rw [Int.natAbs_tdiv]; exact Nat.div_le_self _ _
  omega
/-- The same by a number above nothing. -/
theorem down_of (a b : Int) (hb : 0 < b) : a / b = if a.tmod b ≠ 0 ∧ a < 0 then a.tdiv b - 1 else a.tdiv b := by
  have := floor_of a b (by omega)
  rw [Int.fdiv_eq_ediv_of_nonneg _ (by omega)] at this
  rw [this]
  by_cases h : a.tmod b ≠ 0 ∧ a < 0
  · rw [if_pos h, if_pos ⟨h.1, by omega⟩]
  · rw [if_neg h, if_neg (fun g => h ⟨g.1, by omega⟩)]
theorem ediv_bd (a b A : Int) (hb : 0 < b) (h1 : -A ≤ a) (h2 : a ≤ A) (hA : 0 ≤ A) : -A ≤ a / b ∧ a / b ≤ A := by
  constructor
  · refine Int.le_ediv_of_mul_le hb ?_
    have : A * 1 ≤ A * b := Int.mul_le_mul_of_nonneg_left (by omega) hA
    rw [Int.neg_mul]; omega
  · have h3 : a / b ≤ A / b := Int.ediv_le_ediv hb h2
    have h4 : A / b ≤ A := Int.ediv_le_self _ hA
    omega
theorem tdiv_between (a b : Int) (hb : 0 < b) : (0 ≤ a → 0 ≤ a.tdiv b ∧ a.tdiv b ≤ a) ∧ (a ≤ 0 → a ≤ a.tdiv b ∧ a.tdiv b ≤ 0) := by
  constructor
  · intro h
    rw [Int.tdiv_eq_ediv_of_nonneg h]
    exact ⟨Int.ediv_nonneg h (by omega), Int.ediv_le_self _ h⟩
  · intro h
    have e : a.tdiv b = -((-a).tdiv b) := by rw [Int.neg_tdiv]; omega
    rw [e, Int.tdiv_eq_ediv_of_nonneg (by omega)]
    have h1 := Int.ediv_nonneg (show 0 ≤ -a by omega) (show 0 ≤ b by omega)
    have h2 := Int.ediv_le_self b (show 0 ≤ -a by omega)
    omega
/-- The code's quotient, rounded down by hand. -/
theorem down_code (a b q m r : Int) (hb : 0 < b) (a0 : -9223372036854775808 ≤ a) (a1 : a ≤ 9223372036854775807)
    (hq : q = (a.tdiv b + 9223372036854775808) % 18446744073709551616 - 9223372036854775808) (hm : m = a.tmod b) :
    (¬ m = 0 ∧ a < 0 → r = (q - 1 + 9223372036854775808) % 18446744073709551616 - 9223372036854775808 → r = a / b) ∧ ((¬ m = 0 → 0 ≤ a) → q = a / b) := by
  have t := tdiv_between a b hb
  have d := down_of a b hb
  have e := ediv_bd a b 9223372036854775808 hb (by omega) (by omega) (by omega)
  constructor
  · intro h hr
    rw [if_pos ⟨by rw [← hm]; exact h.1, h.2⟩] at d
    have := t.2 (by omega)
    omega
  · intro h
    have hn : ¬ (a.tmod b ≠ 0 ∧ a < 0) := fun g => by have := h (by rw [hm]; exact g.1); omega
    rw [if_neg hn] at d
    rcases Int.le_total 0 a with g | g
    · have := t.1 g; omega
    · have := t.2 g; omega
/-- And of fixed numbers. -/
theorem div_code (x y n q m : Int) (hx : -70368744177664 ≤ x ∧ x ≤ 70368744177664) (hy : ¬ y = 0)
    (hn : n = (x * 65536 + 9223372036854775808) % 18446744073709551616 - 9223372036854775808)
    (hq : q = (n.tdiv y + 9223372036854775808) % 18446744073709551616 - 9223372036854775808) (hm : m = n.tmod y) :
    (¬ m = 0 ∧ ¬ (n < 0 ↔ y < 0) → ∀ r, r = (q - 1 + 9223372036854775808) % 18446744073709551616 - 9223372036854775808 → r = (x * 65536).fdiv y) ∧ ((¬ m = 0 → (n < 0 ↔ y < 0)) → q = (x * 65536).fdiv y) := by
  have e : n = x * 65536 := by omega
  subst e
  have f := floor_of (x * 65536) y hy
  have t := tdiv_bd (x * 65536) y 4611686018427387904 ⟨by omega, by omega⟩
  constructor
  · intro h r hr
    rw [if_pos ⟨by rw [← hm]; exact h.1, h.2⟩] at f
    omega
  · intro h
    have hn : ¬ ((x * 65536).tmod y ≠ 0 ∧ ¬ (x * 65536 < 0 ↔ y < 0)) := fun g => g.2 (h (by rw [hm]; exact g.1))
    rw [if_neg hn] at f
    omega

theorem abs_same {x y u v : Int} (hu : u = if x < 0 then -x else x) (hv : v = if y < 0 then -y else y) (h : x < 0 ↔ y < 0) : x * y = u * v := by
  by_cases hx : x < 0
  · rw [if_pos hx] at hu; rw [if_pos (h.1 hx)] at hv
    rw [hu, hv, Int.neg_mul_neg]
  · rw [if_neg hx] at hu; rw [if_neg (fun g => hx (h.2 g))] at hv
    rw [hu, hv]
theorem abs_diff {x y u v : Int} (hu : u = if x < 0 then -x else x) (hv : v = if y < 0 then -y else y) (h : ¬ (x < 0 ↔ y < 0)) : x * y = -(u * v) := by
  by_cases hx : x < 0
  · have hy : ¬ y < 0 := fun g => h ⟨fun _ => g, fun _ => hx⟩
    rw [if_pos hx] at hu; rw [if_neg hy] at hv
    rw [hu, hv, Int.neg_mul, Int.neg_neg]
  · have hy : y < 0 := by
      rcases Int.lt_or_le y 0 with g | g
      · exact g
      · exact absurd ⟨fun e => absurd e hx, fun e => by omega⟩ h
    rw [if_neg hx] at hu; rw [if_pos hy] at hv
    rw [hu, hv, Int.mul_neg, Int.neg_neg]
theorem abs_bd {x u : Int} (A : Int) (h : -A ≤ x ∧ x ≤ A) (hu : u = if x < 0 then -x else x) : 0 ≤ u ∧ u ≤ A := by
  subst hu; split <;> omega
theorem mul_upto {u v A B C : Int} (hu : 0 ≤ u ∧ u ≤ A) (hv : 0 ≤ v ∧ v ≤ B) (hA : 0 ≤ A) (hC : A * B = C) : 0 ≤ u * v ∧ u * v ≤ C := by
  refine ⟨Int.mul_nonneg hu.1 hv.1, ?_⟩
  have h1 : u * v ≤ A * v := Int.mul_le_mul_of_nonneg_right hu.2 hv.1
  have h2 : A * v ≤ A * B := Int.mul_le_mul_of_nonneg_left hv.2 hA
  omega
theorem mul_sbd {x p A B C : Int} (hx : -A ≤ x ∧ x ≤ A) (hp : 0 ≤ p ∧ p ≤ B) (hA : 0 ≤ A) (hC : A * B = C) : -C ≤ x * p ∧ x * p ≤ C := by
  have h1 : x * p ≤ A * p := Int.mul_le_mul_of_nonneg_right hx.2 hp.1
  have h2 : -A * p ≤ x * p := Int.mul_le_mul_of_nonneg_right hx.1 hp.1
  have h3 : A * p ≤ A * B := Int.mul_le_mul_of_nonneg_left hp.2 hA
  rw [Int.neg_mul] at h2
  omega
theorem abs_part {d p u : Int} (hu : u = if d < 0 then -d else d) : (d < 0 → d * p = -(u * p)) ∧ (¬ d < 0 → d * p = u * p) := by
  constructor
  · intro h; rw [if_pos h] at hu; subst hu; rw [Int.neg_mul, Int.neg_neg]
  · intro h; rw [if_neg h] at hu; subst hu; rfl
theorem part_split {d q r p : Int} (h : d = q * 65536 + r) : d * p = q * p * 65536 + r * p := by subst h; grind
theorem dig_q {z a b c : Int} (h : z = a * 281474976710656 + b * 16777216 + c) (hc : 0 ≤ c) : z / 65536 = a * 4294967296 + b * 256 + c / 65536 ∧ z % 65536 = c % 65536 := by omega
/-- Two that have no bit in common. -/
theorem or_sum (i : Nat) (x y p : Int) (hp : p = 2 ^ i) (hx : 0 ≤ x ∧ x ≤ 18446744073709551615) (hy : 0 ≤ y ∧ y < p) (hi : i ≤ 64) (hd : x % p = 0) : bits .or .u64 x y = x + y := by
  obtain ⟨a, rfl⟩ := Int.eq_ofNat_of_zero_le hx.1
  obtain ⟨b, rfl⟩ := Int.eq_ofNat_of_zero_le hy.1
  subst hp
  have hb : b < 2 ^ i := by have := hy.2; exact_mod_cast this
  have h64 : 2 ^ i ≤ 2 ^ 64 := Nat.pow_le_pow_right (by decide) hi
  rw [u64_or_nat a b (by omega) (by omega)]
  have hd : a % 2 ^ i = 0 := by exact_mod_cast hd
  obtain ⟨q, rfl⟩ := Nat.dvd_of_mod_eq_zero hd
  rw [← Nat.two_pow_add_eq_or_of_lt hb]
  simp
/-- Digits. -/
theorem digits (x1 x0 y1 y0 B : Int) : (x1 * B + x0) * (y1 * B + y0) = x1 * y1 * (B * B) + (x1 * y0 + x0 * y1) * B + x0 * y0 := by grind
end Go.Fx
