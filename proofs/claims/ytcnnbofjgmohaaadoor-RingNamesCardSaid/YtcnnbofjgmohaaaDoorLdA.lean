import Derived.Test.YtcnnbofjgmohaaaDoorFxA
namespace Go.Fx
set_option linter.unusedVariables false
set_option linter.unusedSimpArgs false
/-! How full a green is, plainly. -/
abbrev loadOk (g b c h : Int) : Prop := (0 ≤ g ∧ g ≤ 1048576) ∧ (0 ≤ b ∧ b ≤ g) ∧ (0 ≤ c ∧ c ≤ 1073741824) ∧ (0 ≤ h ∧ h ≤ 1048576)
def loadV (g b c h : Int) : Int := if loadOk g b c h then (if g = 0 then 0 else min g (b + c * h) * 65536 / g) else 0
def loadE (g b c h : Int) : Int := if loadOk g b c h then 0 else 2
def fx (a : Int) : Bool := decide (0 ≤ a ∧ a ≤ 65536)
abbrev smOk (a b c : Int) : Prop := (0 ≤ a ∧ a ≤ 65536) ∧ (0 ≤ b ∧ b ≤ 65536) ∧ (0 ≤ c ∧ c ≤ 65536)
def smoothV (a b c : Int) : Int := if smOk a b c then mixI a b c else 0
def smoothE (a b c : Int) : Int := if smOk a b c then 0 else 2
/-- The place of the first of the greatest among the first i. -/
def tp (xs : List Int) : Nat → Int
  | 0 => -1
  | i + 1 => if tp xs i < 0 ∨ xs.getD i 0 > xs.getD (tp xs i).toNat 0 then (i : Int) else tp xs i
def hi (xs : List Int) : Int × Int × Int :=
  if 1024 < xs.length then (0, 0, 4) else if xs.all fx then (if tp xs xs.length < 0 then (-1, 0, 0) else (tp xs xs.length, xs.getD (tp xs xs.length).toNat 0, 0)) else (0, 0, 2)

theorem tp_bd (xs : List Int) : ∀ i : Nat, -1 ≤ tp xs i ∧ tp xs i < i ∧ (0 < i → 0 ≤ tp xs i)
  | 0 => by simp [tp]
  | i + 1 => by
    have := tp_bd xs i
    unfold tp
    split <;> omega
theorem tp_step (xs : List Int) (i : Int) (h : 0 ≤ i) (t : Int) (ht : t = tp xs i.toNat) :
    ((t < 0 ∨ xs.getD i.toNat 0 > xs.getD t.toNat 0) → i = tp xs (i + 1).toNat) ∧ (¬ (t < 0 ∨ xs.getD i.toNat 0 > xs.getD t.toNat 0) → t = tp xs (i + 1).toNat) := by
  have e : (i + 1).toNat = i.toNat + 1 := by omega
  rw [e, tp]
  subst ht
  constructor
  · intro c; rw [if_pos c]; omega
  · intro c; rw [if_neg c]
theorem full_bd {g m : Int} (hg : 0 < g) (h0 : 0 ≤ m) (h1 : m ≤ g) : 0 ≤ m * 65536 / g ∧ m * 65536 / g ≤ 65536 := by
  constructor
  · exact Int.ediv_nonneg (by omega) (by omega)
  · exact Int.ediv_le_of_le_mul hg (by rw [Int.mul_comm]; omega)
theorem prod_bd {c h : Int} (hc : 0 ≤ c ∧ c ≤ 1073741824) (hh : 0 ≤ h ∧ h ≤ 1048576) : 0 ≤ c * h ∧ c * h ≤ 1125899906842624 := mul_upto hc hh (by decide) (by decide)
theorem loadV_bd (g b c h : Int) : 0 ≤ loadV g b c h ∧ loadV g b c h ≤ 65536 := by
  unfold loadV
  split
  · rename_i ok
    split
    · omega
    · obtain ⟨h1, h2, h3, h4⟩ := ok
      have := prod_bd h3 h4
      exact full_bd (by omega) (by omega) (by omega)
  · omega
theorem loadE_or (g b c h : Int) : loadE g b c h = 0 ∨ loadE g b c h = 2 := by unfold loadE; split <;> simp
theorem smoothE_or (a b c : Int) : smoothE a b c = 0 ∨ smoothE a b c = 2 := by unfold smoothE; split <;> simp
theorem smoothV_bd (a b c : Int) : 0 ≤ smoothV a b c ∧ smoothV a b c ≤ 65536 := by
  unfold smoothV
  split
  · rename_i ok
    obtain ⟨h1, h2, h3⟩ := ok
    have := mix_between a b c
    have ea : stopI a = a := stop_id (by omega) (by omega)
    have eb : stopI b = b := stop_id (by omega) (by omega)
    rw [ea, eb] at this
    omega
  · omega
/-- The program's own way. -/
theorem div_of {g m : Int} (hg : 0 < g ∧ g ≤ 1048576) (hm : 0 ≤ m ∧ m ≤ g) : divQ (ofI m) (ofI g) = m * 65536 / g ∧ divE (ofI g) = 0 := by
  have e1 : ofI m = m * 65536 := by unfold ofI; omega
  have e2 : ofI g = g * 65536 := by unfold ofI; omega
  have s1 : stopI (m * 65536) = m * 65536 := stop_id (by omega) (by omega)
  have s2 : stopI (g * 65536) = g * 65536 := stop_id (by omega) (by omega)
  unfold divQ divE
  rw [e1, e2, s1, s2, if_neg (by omega), if_neg (by omega), Int.fdiv_eq_ediv_of_nonneg _ (by omega), Int.mul_ediv_mul_of_pos_left _ _ (by decide)]
  have := full_bd hg.1 hm.1 hm.2
  exact ⟨stop_id (by omega) (by omega), rfl⟩
theorem load_mono {g b c h b' c' h' : Int} (ok : loadE g b c h = 0) (ok' : loadE g b' c' h' = 0) (hb : b ≤ b') (hc : c ≤ c') (hh : h ≤ h') : loadV g b c h ≤ loadV g b' c' h' := by
  unfold loadE at ok ok'
  unfold loadV
  split at ok
  · rename_i q
    split at ok'
    · rename_i q'
      rw [if_pos q, if_pos q']
      split
      · omega
      · refine Int.ediv_le_ediv (by omega) ?_
        obtain ⟨h1, h2, h3, h4⟩ := q
        have k1 : c * h ≤ c' * h := Int.mul_le_mul_of_nonneg_right hc (by omega)
        have k2 : c' * h ≤ c' * h' := Int.mul_le_mul_of_nonneg_left hh (by omega)
        have := prod_bd h3 h4
        omega
    · cases ok'
  · cases ok
theorem load_all {g b c h : Int} (ok : loadE g b c h = 0) : loadE g g c h = 0 ∧ (loadV g g c h = 65536 ∨ g = 0) := by
  unfold loadE at ok ⊢
  unfold loadV
  split at ok
  · rename_i q
    obtain ⟨h1, h2, h3, h4⟩ := q
    have q' : loadOk g g c h := ⟨h1, ⟨by omega, by omega⟩, h3, h4⟩
    rw [if_pos q', if_pos q']
    refine ⟨rfl, ?_⟩
    split
    · exact .inr ‹_›
    · left
      have := prod_bd h3 h4
      rw [show min g (g + c * h) = g by omega, Int.mul_ediv_cancel_left _ (by omega)]
  · cases ok
theorem tmod_sign (a b : Int) : (0 ≤ a → 0 ≤ a.tmod b) ∧ (a ≤ 0 → a.tmod b ≤ 0) := by
  constructor
  · intro h; exact Int.tmod_nonneg b h
  · intro h
    have := Int.tmod_nonneg b (show 0 ≤ -a by omega)
    rw [Int.neg_tmod] at this
    omega
theorem mixed_code {a b c d : Int} (ha : 0 ≤ a ∧ a ≤ 65536) (hb : 0 ≤ b ∧ b ≤ 65536) (hc : 0 ≤ c ∧ c ≤ 65536) (hd : d = (b - a) * c) :
    mixI a b c = a + d / 65536 ∧ (-4294967296 ≤ (b - a) * c ∧ (b - a) * c ≤ 4294967296) := by
  have ea : stopI a = a := stop_id (by omega) (by omega)
  have eb : stopI b = b := stop_id (by omega) (by omega)
  have ec : clampI c 0 65536 = c := by unfold clampI; omega
  unfold mixI
  rw [ea, eb, ec, ← hd]
  exact ⟨rfl, by rw [hd] at *; exact mul_sbd (A := 65536) (B := 65536) ⟨by omega, by omega⟩ hc (by decide) (by decide)⟩
theorem loadV_zero {g b c h : Int} (e : ¬ loadE g b c h = 0) : loadV g b c h = 0 := by
  unfold loadE at e
  unfold loadV
  split at e
  · exact absurd rfl e
  · rw [if_neg ‹_›]
theorem smoothV_zero {a b c : Int} (e : ¬ smoothE a b c = 0) : smoothV a b c = 0 := by
  unfold smoothE at e
  unfold smoothV
  split at e
  · exact absurd rfl e
  · rw [if_neg ‹_›]
theorem smooth_all {a b c : Int} (h : smoothE a b c = 0) : smoothE a b 0 = 0 ∧ smoothE a b 65536 = 0 ∧ smoothV a b 0 = a ∧ smoothV a b 65536 = b ∧ min a b ≤ smoothV a b c ∧ smoothV a b c ≤ max a b := by
  unfold smoothE at h ⊢
  unfold smoothV
  split at h
  · rename_i ok
    obtain ⟨h1, h2, h3⟩ := ok
    have ea : stopI a = a := stop_id (by omega) (by omega)
    have eb : stopI b = b := stop_id (by omega) (by omega)
    have := mix_between a b c
    rw [ea, eb] at this
    rw [if_pos (show smOk a b 0 from ⟨h1, h2, by omega⟩), if_pos (show smOk a b 65536 from ⟨h1, h2, by omega⟩), if_pos (show smOk a b 0 from ⟨h1, h2, by omega⟩), if_pos (show smOk a b 65536 from ⟨h1, h2, by omega⟩), if_pos (show smOk a b c from ⟨h1, h2, h3⟩), mix_zero, mix_one, ea, eb]
    omega
  · cases h
theorem all_take_succ {f : Int → Bool} {xs : List Int} {i : Nat} (h : i < xs.length) : (xs.take (i + 1)).all f = ((xs.take i).all f && f (xs.getD i 0)) := by
  rw [List.take_succ_eq_append_getElem h, List.all_append]
  simp [List.getD, h]
theorem hi_many {xs : List Int} (h : 1024 < xs.length) : hi xs = (0, 0, 4) := by unfold hi; rw [if_pos h]
theorem hi_bad {xs : List Int} {i : Nat} (h : ¬ 1024 < xs.length) (hi' : i < xs.length) (hb : ¬ (0 ≤ xs.getD i 0 ∧ xs.getD i 0 ≤ 65536)) : hi xs = (0, 0, 2) := by
  unfold hi
  rw [if_neg h, if_neg]
  intro ha
  rw [List.all_eq_true] at ha
  have := ha (xs.getD i 0) (by simp [List.getD, hi'])
  unfold fx at this
  exact hb (of_decide_eq_true this)
theorem hi_none {xs : List Int} {v : Int} (h : ¬ 1024 < xs.length) (ha : (xs.take v.toNat).all fx = true) (hv : ¬ v < xs.length) (ht : tp xs xs.length < 0) : hi xs = (-1, 0, 0) := by
  rw [List.take_of_length_le (by omega)] at ha
  unfold hi
  rw [if_neg h, if_pos ha, if_pos ht]
theorem hi_some {xs : List Int} {v : Int} (h : ¬ 1024 < xs.length) (ha : (xs.take v.toNat).all fx = true) (hv : ¬ v < xs.length) (ht : ¬ tp xs xs.length < 0) : hi xs = (tp xs xs.length, xs.getD (tp xs xs.length).toNat 0, 0) := by
  rw [List.take_of_length_le (by omega)] at ha
  unfold hi
  rw [if_neg h, if_pos ha, if_neg ht]
theorem all_next {xs : List Int} {v n : Int} (h0 : 0 ≤ v) (h : v < xs.length) (hn : n = v + 1) (ha : (xs.take v.toNat).all fx = true) (hx : 0 ≤ xs.getD v.toNat 0 ∧ xs.getD v.toNat 0 ≤ 65536) : (xs.take n.toNat).all fx = true := by
  subst hn
  rw [show (v + 1).toNat = v.toNat + 1 by omega, all_take_succ (by omega), ha]
  simp only [fx, Bool.true_and]
  exact decide_eq_true hx
end Go.Fx
