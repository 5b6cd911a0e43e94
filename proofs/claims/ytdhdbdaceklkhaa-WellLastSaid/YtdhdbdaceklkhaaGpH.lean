import Derived.Test.YtdhdbdaceklkhaaGpA
namespace Go.Fx
open Go
set_option linter.unusedVariables false
/- RUNS OF TICKS, COUNTED OVER THE LIST; AND WHAT GAPS HOLD BEHIND THEM. -/
abbrev RS := Option Bool × Int × Int
def rN (s : RS) (b : Bool) : RS := (some b, if b = true ∧ s.1 ≠ some true then s.2.1 + 1 else s.2.1, if s.1 = some (!b) then 1 else s.2.2 + 1)
def rS (xs : List Bool) : RS := xs.foldl rN (none, 0, 0)
theorem take_next {xs : List Bool} {i : Int} (h0 : 0 ≤ i) (h1 : i < xs.length) : xs.take (i + 1).toNat = xs.take i.toNat ++ [xs.getD i.toNat false] := by
  rw [show (i + 1).toNat = i.toNat + 1 by omega, List.take_add_one, show xs[i.toNat]?.toList = [xs.getD i.toNat false] by
    rw [List.getElem?_eq_getElem (by omega), List.getD_eq_getElem?_getD, List.getElem?_eq_getElem (by omega)]; rfl]
theorem rS_next {xs : List Bool} {i : Int} (h0 : 0 ≤ i) (h1 : i < xs.length) : rS (xs.take (i + 1).toNat) = rN (rS (xs.take i.toNat)) (xs.getD i.toNat false) := by
  rw [take_next h0 h1]; unfold rS; rw [List.foldl_append]; rfl
theorem rS_prev {xs : List Bool} {i : Int} (h0 : 0 < i) (h1 : i ≤ xs.length) : (rS (xs.take i.toNat)).1 = some (xs.getD (i - 1).toNat false) := by
  have := rS_next (xs := xs) (i := i - 1) (by omega) (by omega)
  rw [show i - 1 + 1 = i by omega] at this
  rw [this]; rfl
def RI (n : Int) (g : GS) (r : RS) : Prop := gB g ∧ g.2.2.2.1 = r.2.1 ∧ (0 ≤ r.2.1 ∧ r.2.1 ≤ n) ∧ (0 ≤ r.2.2 ∧ r.2.2 ≤ n) ∧
  ((r.1 = none ∧ g = (false, 0, 0, 0, 0) ∧ r.2.2 = 0) ∨ (r.1 = some true ∧ g.1 = true ∧ g.2.1 = r.2.2 ∧ g.2.2.1 = 0) ∨ (r.1 = some false ∧ g.1 = false ∧ g.2.2.1 = r.2.2 ∧ g.2.1 = 0))
theorem RI_step {n : Int} {g : GS} {r : RS} (b : Bool) (hn : 0 ≤ n ∧ n ≤ 1000000) (h : RI n g r) : RI (n + 1) (gN g b) (rN r b) := by
  obtain ⟨u, a, o, c, l⟩ := g
  obtain ⟨p, cm, rn⟩ := r
  obtain ⟨h1, h2, h3, h4, h5⟩ := h
  refine ⟨gN_ok b h1, ?_⟩
  have hz := h1.1
  dsimp only at h2 h3 h4 h5 hz
  unfold gN rN
  dsimp only
  cases b with
  | false =>
    have n := next_down hz
    rw [n.1, n.2.1, n.2.2.1, n.2.2.2.1]
    rcases h5 with ⟨rfl, e, e2⟩ | ⟨rfl, e, e2, e3⟩ | ⟨rfl, e, e2, e3⟩
    · simp only [Prod.mk.injEq] at e
      simp; omega
    · simp; omega
    · simp; omega
  | true =>
    rcases h5 with ⟨rfl, e, e2⟩ | ⟨rfl, e, e2, e3⟩ | ⟨rfl, e, e2, e3⟩
    · simp only [Prod.mk.injEq] at e
      have n := next_up0 hz e.1
      rw [n.1, n.2.1, n.2.2.1, n.2.2.2.1]
      simp; omega
    · have n := next_up1 hz e
      rw [n.1, n.2.1, n.2.2.1, n.2.2.2.1]
      simp; omega
    · have n := next_up0 hz e
      rw [n.1, n.2.1, n.2.2.1, n.2.2.2.1]
      simp; omega
theorem runs_at (xs : List Bool) (h : xs.length ≤ 1000000) : ∀ n : Nat, n ≤ xs.length → RI n (gS (xs.take n)) (rS (xs.take n))
  | 0, _ => by
    rw [List.take_zero]
    exact ⟨gS_ok [], rfl, by decide, by decide, .inl ⟨rfl, rfl, rfl⟩⟩
  | n + 1, hn => by
    have ih := RI_step (xs.getD n false) (by omega) (runs_at xs h n (by omega))
    have e1 := gS_next (xs := xs) (i := n) (by omega) (by omega)
    have e2 := rS_next (xs := xs) (i := n) (by omega) (by omega)
    rw [show ((n : Int) + 1).toNat = n + 1 by omega, show ((n : Int)).toNat = n by omega] at e1 e2
    rw [e1, e2]
    exact_mod_cast ih
theorem runs_ok (xs : List Bool) (h : xs.length ≤ 1000000) : RI xs.length (gS xs) (rS xs) := by
  have := runs_at xs h xs.length (Nat.le_refl _)
  rwa [List.take_length] at this
theorem rS_step {xs : List Bool} {i n m : Int} (h0 : 0 ≤ i) (h1 : i < xs.length) (hn : n = i + 1) (hm : m = i - 1) :
    (rS (xs.take n.toNat)).2.1 = (if xs[i.toNat]?.getD false = true ∧ (i = 0 ∨ xs[m.toNat]?.getD false = false) then (rS (xs.take i.toNat)).2.1 + 1 else (rS (xs.take i.toNat)).2.1) ∧
    (rS (xs.take n.toNat)).2.2 = (if 0 < i ∧ ¬ xs[i.toNat]?.getD false = xs[m.toNat]?.getD false then 1 else (rS (xs.take i.toNat)).2.2 + 1) := by
  subst hn hm
  rw [rS_next h0 h1]
  unfold rN
  dsimp only
  rw [List.getD_eq_getElem?_getD]
  rcases Decidable.em (i = 0) with h | h
  · have e : (rS (xs.take i.toNat)).1 = none := by subst h; rfl
    rw [e]
    constructor
    · congr 1; simp [h]
    · rw [if_neg (by simp), if_neg (by omega)]
  · have e := rS_prev (xs := xs) (i := i) (by omega) (by omega)
    rw [List.getD_eq_getElem?_getD] at e
    rw [e]
    constructor
    · congr 1; simp [h]
    · congr 1
      simp only [Option.some.injEq, eq_iff_iff]
      constructor
      · intro hh; refine ⟨by omega, ?_⟩; rw [hh]; simp
      · intro hh; have := hh.2; revert this; cases xs[i.toNat]?.getD false <;> cases xs[(i - 1).toNat]?.getD false <;> simp
theorem runs_end {xs : List Bool} {v : Int × Int × Int} {m : Int} (h : 0 < xs.length ∧ xs.length ≤ 1000000) (hv : v.1 = xs.length) (hm : m = xs.length - 1) (e1 : v.2.1 = (rS (xs.take v.1.toNat)).2.1) (e2 : v.2.2 = (rS (xs.take v.1.toNat)).2.2) :
    (gS xs).2.2.2.1 = v.2.1 ∧ ((xs[m.toNat]?.getD false = true ∧ (gS xs).1 = true ∧ (gS xs).2.1 = v.2.2 ∧ (gS xs).2.2.1 = 0) ∨ (xs[m.toNat]?.getD false = false ∧ (gS xs).1 = false ∧ (gS xs).2.2.1 = v.2.2 ∧ (gS xs).2.1 = 0)) := by
  have R := runs_ok xs h.2
  have ev : xs.take v.1.toNat = xs := by rw [hv, show ((xs.length : Int)).toNat = xs.length by omega, List.take_length]
  have pr := rS_prev (xs := xs) (i := v.1) (by omega) (by omega)
  rw [ev] at e1 e2 pr
  rw [show v.1 - 1 = m by omega, List.getD_eq_getElem?_getD] at pr
  obtain ⟨-, r1, -, -, r2⟩ := R
  refine ⟨by rw [e1]; exact r1, ?_⟩
  rw [e2]
  rcases r2 with r2 | r2 | r2
  · rw [r2.1] at pr; cases pr
  · rw [r2.1] at pr; simp only [Option.some.injEq] at pr
    exact .inl ⟨pr.symm, r2.2.1, r2.2.2.1, r2.2.2.2⟩
  · rw [r2.1] at pr; simp only [Option.some.injEq] at pr
    exact .inr ⟨pr.symm, r2.2.1, r2.2.2.1, r2.2.2.2⟩
end Go.Fx
