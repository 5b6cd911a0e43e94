import Derived.Test.YtdhdbdaceklkhaaGpH
namespace Go.Fx
open Go
set_option linter.unusedVariables false
/- HOW LONG NOTHING HAS STOOD THERE; AND HOW MANY OF THE LAST TICKS SOMETHING DID. -/
def allF (xs : List Bool) (i : Int) : Prop := ∀ j : Nat, i < (j : Int) → j < xs.length → xs[j]?.getD false = false
theorem allF_start {xs : List Bool} {i : Int} (h : i = xs.length - 1) : allF xs i := fun j h1 h2 => by omega
theorem allF_next {xs : List Bool} {i n : Int} (h : allF xs i) (h0 : 0 ≤ i) (hx : xs[i.toNat]?.getD false = false) (hn : n = i - 1) : allF xs n := fun j h1 h2 => by
  rcases Decidable.em (i < (j : Int)) with h3 | h3
  · exact h j h3 h2
  · rw [show j = i.toNat by omega]; exact hx
theorem open_run {xs : List Bool} {i : Int} (hl : xs.length ≤ 1000000) (hi : -1 ≤ i ∧ i < xs.length) (ha : allF xs i) (hx : 0 ≤ i → xs[i.toNat]?.getD false = true) :
    ∀ k : Nat, (i + 1).toNat + k ≤ xs.length → (gS (xs.take ((i + 1).toNat + k))).2.2.1 = k ∧ (0 < k → (gS (xs.take ((i + 1).toNat + k))).1 = false) ∧ (k = 0 → 0 ≤ i → (gS (xs.take ((i + 1).toNat + k))).1 = true)
  | 0, _ => by
    rcases Decidable.em (0 ≤ i) with h | h
    · have e := gS_next (xs := xs) (i := i) h hi.2
      have g := gS_ok (xs.take i.toNat)
      rw [List.getD_eq_getElem?_getD, hx h] at e
      rw [Nat.add_zero, e]
      unfold gN
      dsimp only
      cases hu : (gS (xs.take i.toNat)).1 with
      | false => have g1 := g.1; rw [hu] at g1; have n := next_up0 g1 rfl; rw [n.1, n.2.2.1]; simp
      | true => have g1 := g.1; rw [hu] at g1; have n := next_up1 g1 rfl; rw [n.1, n.2.2.1]; simp
    · rw [show (i + 1).toNat + 0 = 0 by omega, List.take_zero]
      exact ⟨rfl, fun h => absurd h (by decide), fun _ h' => absurd h' h⟩
  | k + 1, hk => by
    have ih := open_run hl hi ha hx k (by omega)
    have e := gS_next (xs := xs) (i := ((i + 1).toNat + k : Nat)) (by omega) (by omega)
    have f := ha ((i + 1).toNat + k) (by omega) (by omega)
    have g := gS_ok (xs.take ((i + 1).toNat + k))
    rw [show ((((i + 1).toNat + k : Nat) : Int)).toNat = (i + 1).toNat + k by omega, show ((((i + 1).toNat + k : Nat) : Int) + 1).toNat = (i + 1).toNat + (k + 1) by omega, List.getD_eq_getElem?_getD, f] at e
    rw [e]
    unfold gN
    dsimp only
    have n := next_down g.1
    rw [n.1, n.2.2.1, ih.1]
    have hk2 : (k : Int) + 1 ≤ 1000000 := by omega
    have hk3 : (k : Int) + 1 ≤ 1048576 := Int.le_trans hk2 (by decide)
    refine ⟨by rw [Int.min_eq_left hk3]; rfl, fun _ => rfl, fun h => absurd h (Nat.succ_ne_zero k)⟩
theorem past_end {xs : List Bool} {i run m : Int} (h : 0 < xs.length ∧ xs.length ≤ 1000000) (hi : -1 ≤ i ∧ i < xs.length) (ha : allF xs i) (hx : 0 ≤ i → xs[i.toNat]?.getD false = true) (hr : run = xs.length - 1 - i) (hm : m = xs.length - 1) :
    (xs[m.toNat]?.getD false = true ∧ (gS xs).1 = true) ∨ (xs[m.toNat]?.getD false = false ∧ (gS xs).1 = false ∧ (gS xs).2.2.1 = run) := by
  have o := open_run h.2 hi ha hx (xs.length - (i + 1).toNat) (by omega)
  rw [show (i + 1).toNat + (xs.length - (i + 1).toNat) = xs.length by omega, List.take_length] at o
  rcases Decidable.em (i = xs.length - 1) with e | e
  · left
    have : m = i := by omega
    rw [this]
    exact ⟨hx (by omega), o.2.2 (by omega) (by omega)⟩
  · right
    refine ⟨?_, o.2.1 (by omega), by rw [o.1]; omega⟩
    have := ha m.toNat (by omega) (by omega)
    exact this
theorem pa_at {xs : List Bool} {w : Int} (hw : 0 ≤ w ∧ w ≤ 1048576) : paV (gS xs).1 (gS xs).2.1 (gS xs).2.2.1 (gS xs).2.2.2.1 (gS xs).2.2.2.2 w = (bif !(gS xs).1 then decide ((gS xs).2.2.1 ≥ w) else false) ∧ paE (gS xs).1 (gS xs).2.1 (gS xs).2.2.1 (gS xs).2.2.2.1 (gS xs).2.2.2.2 w = 0 := by
  have := pa_good (gS_ok xs).1 hw
  exact ⟨this.1.symm, this.2⟩

/-- How many of xs from s on, below i, are true. -/
def trI (xs : List Bool) (s i : Int) : Int := (((xs.take i.toNat).drop s.toNat).count true : Nat)
theorem trI_start (xs : List Bool) (s : Int) : trI xs s s = 0 := by
  unfold trI
  rw [List.drop_eq_nil_of_le (by simp; omega)]; rfl
theorem trI_next {xs : List Bool} {s i n : Int} (h0 : 0 ≤ s ∧ s ≤ i) (h1 : i < xs.length) (hn : n = i + 1) : trI xs s n = trI xs s i + (if xs[i.toNat]?.getD false then 1 else 0) := by
  subst hn
  unfold trI
  rw [take_next (by omega) h1, List.drop_append_of_le_length (by simp; omega), List.count_append, List.getD_eq_getElem?_getD]
  cases xs[i.toNat]?.getD false <;> simp
theorem cnt_step {k : Nat} {l : Int} {b : Bool} (hk : k + 1 ≤ 64) (hl : 0 ≤ l) : cnt (k + 1) ((l * 2 + if b then 1 else 0) % 18446744073709551616) = (if b then 1 else 0) + cnt k l := by
  obtain ⟨y, rfl⟩ := Int.eq_ofNat_of_zero_le hl
  have e : (((y : Int) * 2 + if b then 1 else 0) % 18446744073709551616) / 2 = ((y % 2 ^ 63 : Nat) : Int) := by cases b <;> simp <;> omega
  have e2 : (((y : Int) * 2 + if b then 1 else 0) % 18446744073709551616) % 2 = if b then 1 else 0 := by cases b <;> simp <;> omega
  simp only [cnt]
  rw [e, e2, cnt_nat, cnt_nat, ← cntN_mod k (y % 2 ^ 63), ← cntN_mod k y, Nat.mod_mod_of_dvd _ (Nat.pow_dvd_pow 2 (by omega))]
theorem gS_l {xs : List Bool} {b : Bool} : (gS (xs ++ [b])).2.2.2.2 = ((gS xs).2.2.2.2 * 2 + if b then 1 else 0) % 18446744073709551616 := by
  rw [gS_snoc]
  unfold gN
  dsimp only
  have g := gS_ok xs
  unfold nL
  rw [if_pos (gE_zero.1 g.1)]
theorem cnt_last (xs : List Bool) : ∀ n : Nat, n ≤ xs.length → ∀ k : Nat, k ≤ 64 → cnt k (gS (xs.take n)).2.2.2.2 = trI xs ((n - k : Nat) : Int) n
  | 0, _, k, hk => by
    rw [List.take_zero, show ((0 - k : Nat) : Int) = ((0 : Nat) : Int) by simp, trI_start]
    have e : (gS []).2.2.2.2 = ((0 : Nat) : Int) := rfl
    rw [e, cnt_nat]
    have : ∀ k, cntN k 0 = 0 := fun k => by induction k with
      | zero => rfl
      | succ k ih => simp only [cntN]; rw [Nat.zero_div, ih]
    rw [this]; rfl
  | n + 1, hn, 0, hk => by rw [Nat.sub_zero, trI_start]; rfl
  | n + 1, hn, k + 1, hk => by
    have ih := cnt_last xs n (by omega) k (by omega)
    have t := take_next (xs := xs) (i := (n : Int)) (by omega) (by omega)
    rw [show ((n : Int) + 1).toNat = n + 1 by omega, show ((n : Int)).toNat = n by omega, List.getD_eq_getElem?_getD] at t
    have g := (gS_bd (xs.take n)).2.2.2
    rw [t, gS_l, cnt_step hk g.1, ih]
    have s := trI_next (xs := xs) (s := ((n - k : Nat) : Int)) (i := (n : Int)) (n := ((n + 1 : Nat) : Int)) (by omega) (by omega) (by omega)
    rw [show n + 1 - (k + 1) = n - k by omega, s, show ((n : Int)).toNat = n by omega]
    omega
theorem share_end {xs : List Bool} {w s : Int} (hw : 1 ≤ w ∧ w ≤ 64) (hs : s = max 0 ((xs.length : Int) - w)) : shV (gS xs).1 (gS xs).2.1 (gS xs).2.2.1 (gS xs).2.2.2.1 (gS xs).2.2.2.2 w = trI xs s xs.length * 65536 / w ∧ shE (gS xs).1 (gS xs).2.1 (gS xs).2.2.1 (gS xs).2.2.2.1 (gS xs).2.2.2.2 w = 0 ∧ (0 ≤ trI xs s xs.length ∧ trI xs s xs.length ≤ w) := by
  have g := gS_ok xs
  have c := cnt_last xs xs.length (Nat.le_refl _) w.toNat (by omega)
  rw [List.take_length, show ((xs.length - w.toNat : Nat) : Int) = s by omega] at c
  have b := cnt_bd w.toNat (gS xs).2.2.2.2 g.2.1
  rw [c] at b
  refine ⟨?_, ?_, by omega⟩
  · unfold shV; rw [if_pos ⟨gE_zero.1 g.1, hw⟩, c]
  · unfold shE; rw [if_pos (gE_zero.1 g.1), if_pos hw]
theorem share_ineq {t w x : Int} (hw : 1 ≤ w) (hx : x = t * 65536 / w) : x * w ≤ t * 65536 ∧ t * 65536 < (x + 1) * w := by
  subst hx
  exact ⟨Int.ediv_mul_le _ (by omega), Int.lt_ediv_add_one_mul_self _ (by omega)⟩
end Go.Fx
