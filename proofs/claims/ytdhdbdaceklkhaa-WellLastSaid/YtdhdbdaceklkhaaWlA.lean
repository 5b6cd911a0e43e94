import Derived.Test.YtdhdbdaceklkhaaGpJ
namespace Go.Fx
open Go
set_option linter.unusedVariables false
/- HOW GOOD A LINK IS, IN PLAIN NUMBERS. -/
def wN (b : Int) (got : Bool) : Int := (b * 2 + if got then 1 else 0) % 18446744073709551616
def wS (b w : Int) : Int := if 1 ≤ w ∧ w ≤ 64 then cnt w.toNat b * 65536 / w else 0
def wE (w : Int) : Int := if 1 ≤ w ∧ w ≤ 64 then 0 else 2
def pV (b w z : Int) : Bool := decide ((1 ≤ w ∧ w ≤ 64) ∧ (0 ≤ z ∧ z ≤ 65536) ∧ wS b w < z)
def pE (w z : Int) : Int := if (1 ≤ w ∧ w ≤ 64) ∧ (0 ≤ z ∧ z ≤ 65536) then 0 else 2
theorem and_two (a r b s : Nat) (hr : r < 2) (hs : s < 2) : (2 * a + r) &&& (2 * b + s) = 2 * (a &&& b) + (r &&& s) := by
  have h1 : ((2 * a + r) &&& (2 * b + s)) % 2 ^ 1 = r &&& s := by
    rw [Nat.and_mod_two_pow]; congr 1 <;> omega
  have h2 : ((2 * a + r) &&& (2 * b + s)) / 2 ^ 1 = a &&& b := by
    rw [Nat.and_div_two_pow]; congr 1 <;> omega
  omega
theorem pop_and : ∀ n y, 0 < y → y < 2 ^ n → cntN n (y &&& (y - 1)) + 1 = cntN n y
  | 0, y, h0, h1 => by simp at h1; omega
  | n + 1, y, h0, h1 => by
    simp only [cntN]
    rw [Nat.pow_succ] at h1
    rcases Nat.mod_two_eq_zero_or_one y with h | h
    · have e : y &&& (y - 1) = 2 * (y / 2 &&& (y / 2 - 1)) + 0 := by
        have := and_two (y / 2) 0 (y / 2 - 1) 1 (by decide) (by decide)
        rw [show 2 * (y / 2) + 0 = y by omega, show 2 * (y / 2 - 1) + 1 = y - 1 by omega] at this
        exact this
      have ih := pop_and n (y / 2) (by omega) (by omega)
      rw [e, show (2 * (y / 2 &&& (y / 2 - 1)) + 0) / 2 = (y / 2 &&& (y / 2 - 1)) by omega, show (2 * (y / 2 &&& (y / 2 - 1)) + 0) % 2 = 0 by omega]
      omega
    · have e : y &&& (y - 1) = 2 * (y / 2) := by
        have := and_two (y / 2) 1 (y / 2) 0 (by decide) (by decide)
        rw [show 2 * (y / 2) + 1 = y by omega, show 2 * (y / 2) + 0 = y - 1 by omega, Nat.and_self] at this
        exact this
      rw [e, show 2 * (y / 2) / 2 = y / 2 by omega, show 2 * (y / 2) % 2 = 0 by omega]
      omega
theorem cnt_and {x y n : Int} (h0 : 0 ≤ x) (h1 : x ≤ 18446744073709551615) (hx : ¬ x = 0) (hy : y = x - 1) (hn : n = bits .and .u64 x y) : cnt 64 n + 1 = cnt 64 x ∧ (0 ≤ n ∧ n ≤ y) := by
  obtain ⟨a, rfl⟩ := Int.eq_ofNat_of_zero_le h0
  have e : n = ((a &&& (a - 1) : Nat) : Int) := by
    rw [hn, hy, show (a : Int) - 1 = ((a - 1 : Nat) : Int) by omega]
    exact u64_and_nat a (a - 1) (by omega) (by omega)
  have p := pop_and 64 a (by omega) (by omega)
  have l : a &&& (a - 1) ≤ a - 1 := Nat.and_le_right
  rw [e, cnt_nat, cnt_nat]
  refine ⟨by omega, by omega, by omega⟩
theorem cnt_zero : ∀ n, cnt n 0 = 0
  | 0 => rfl
  | n + 1 => by
    have := cnt_zero n
    simp only [cnt]
    rw [show (0 : Int) / 2 = 0 by decide, this]; rfl
theorem wshare {b w c : Int} (hw : 1 ≤ w ∧ w ≤ 64) (hl : 0 ≤ b) (hc : c = cnt w.toNat b) :
    divQ (ofI c) (ofI w) = wS b w ∧ divE (ofI w) = wE w ∧ (0 ≤ wS b w ∧ wS b w ≤ 65536) ∧ wE w = 0 := by
  have bd := cnt_bd w.toNat b hl
  rw [← hc] at bd
  have hd := div_of (g := w) (m := c) (by omega) (by omega)
  have ev : wS b w = c * 65536 / w := by unfold wS; rw [if_pos hw, hc]
  have ee : wE w = 0 := by unfold wE; rw [if_pos hw]
  have := full_bd (g := w) (m := c) (by omega) (by omega) (by omega)
  exact ⟨by rw [ev]; exact hd.1, by rw [ee]; exact hd.2, by rw [ev]; exact this, ee⟩
theorem wbad {b w : Int} (h : w < 1 ∨ 64 < w) : wS b w = 0 ∧ wE w = 2 := by
  have : ¬ (1 ≤ w ∧ w ≤ 64) := by omega
  simp [wS, wE, this]
theorem wE_eq (w : Int) : wE w = 0 ↔ (1 ≤ w ∧ w ≤ 64) := by unfold wE; split <;> simp_all
theorem wE_ne {w : Int} (h : ¬ wE w = 0) : wE w = 2 := by unfold wE at *; split <;> simp_all
theorem p_bad {b w z : Int} (h : ¬ wE w = 0) : pV b w z = false ∧ pE w z = 2 := by
  have h' := mt (wE_eq w).2 h
  simp [pV, pE, h']
theorem p_arg {b w z : Int} (h : wE w = 0) (hz : z < 0 ∨ 65536 < z) : pV b w z = false ∧ pE w z = 2 := by
  have h' := (wE_eq w).1 h
  have hz' : ¬ (0 ≤ z ∧ z ≤ 65536) := by omega
  simp [pV, pE, h', hz']
theorem p_good {b w z : Int} (h : wE w = 0) (hz : 0 ≤ z ∧ z ≤ 65536) : decide (wS b w < z) = pV b w z ∧ pE w z = 0 := by
  have h' := (wE_eq w).1 h
  simp [pV, pE, h', hz]
theorem wS_nn {b w : Int} (h : wE w = 0) (hb : 0 ≤ b) : 0 ≤ wS b w := (wshare ((wE_eq w).1 h) hb rfl).2.2.1.1
theorem p_none {b w : Int} (h : wE w = 0) (hb : 0 ≤ b) : pV b w 0 = false ∧ pE w 0 = 0 := by
  have g := p_good (b := b) (z := 0) h (by decide)
  have n := wS_nn h hb
  exact ⟨by rw [← g.1]; exact decide_eq_false (by omega), g.2⟩
theorem more_ge {b w : Int} (h : wE w = 0) (hb : 0 ≤ b) : wS (wN b false) w ≤ wS (wN b true) w := by
  have hw := (wE_eq w).1 h
  unfold wS wN
  rw [if_pos hw, if_pos hw, show w.toNat = (w.toNat - 1) + 1 by omega, cnt_step (b := true) (by omega) hb, cnt_step (b := false) (by omega) hb]
  refine Int.ediv_le_ediv (by omega) ?_
  simp only [if_true, Bool.false_eq_true, if_false]
  omega
end Go.Fx
