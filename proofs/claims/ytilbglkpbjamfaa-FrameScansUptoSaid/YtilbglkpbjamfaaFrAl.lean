import Derived.Test.YtilbglkpbjamfaaFrS
namespace Go.Fr
open Go Go.Eng Go.Rw
set_option linter.unusedVariables false
set_option linter.unusedSimpArgs false
theorem last_lo : ∀ l : List UInt8, -1 ≤ lastE l
  | [] => by decide
  | x :: l => by
    have := last_lo l
    rw [lastE]
    by_cases c : lastE l ≠ -1
    · rw [if_pos c]; omega
    · rw [if_neg c]; split <;> omega
theorem last_hi : ∀ l : List UInt8, lastE l < l.length
  | [] => by decide
  | x :: l => by
    have := last_hi l
    rw [lastE, List.length_cons]
    by_cases c : lastE l ≠ -1
    · rw [if_pos c]; omega
    · rw [if_neg c]; split <;> omega
theorem last_snoc (x : UInt8) : ∀ a : List UInt8, lastE (a ++ [x]) = if x = 126 then (a.length : Int) else lastE a
  | [] => by
    by_cases h : x = 126
    · subst h; decide
    · rw [if_neg h, List.nil_append]; show (if (-1 : Int) ≠ -1 then (-1 : Int) + 1 else if x = 126 then 0 else -1) = -1; rw [if_neg (by decide), if_neg h]
  | y :: a => by
    rw [List.cons_append, lastE, last_snoc x a, lastE]
    by_cases h : x = 126
    · rw [if_pos h, if_pos h, if_pos (by omega), List.length_cons]; omega
    · rw [if_neg h, if_neg h]
/-- What a reader is behind some bytes. -/
structure RI (a : List UInt8) (s : Rd) : Prop where
  no : lastE a = -1 → s = (false, false, [])
  yes : lastE a ≠ -1 → s.1 = true ∧ s.2.2 = (a.drop (lastE a + 1).toNat).take 1043 ∧ (s.2.1 = true ↔ 1043 < (a.drop (lastE a + 1).toNat).length)
theorem ri_step {a : List UInt8} {s : Rd} (h : RI a s) (x : UInt8) : RI (a ++ [x]) (rst s x) := by
  have L := last_snoc x a
  have lo := last_lo a
  have hi := last_hi a
  by_cases hx : x = 126
  · rw [if_pos hx] at L
    have e : rst s x = (true, false, []) := by unfold rst; rw [if_pos hx]
    refine ⟨fun c => by omega, fun _ => ?_⟩
    rw [L, e, List.drop_of_length_le (by rw [List.length_append, List.length_singleton]; omega)]
    exact ⟨rfl, rfl, by simp⟩
  · rw [if_neg hx] at L
    by_cases c : lastE a = -1
    · have e := h.no c
      subst e
      refine ⟨fun _ => ?_, fun d => absurd (L.trans c) d⟩
      unfold rst
      rw [if_neg hx, if_neg (by simp), if_neg (by simp)]
    · obtain ⟨y1, y2, y3⟩ := h.yes c
      refine ⟨fun d => absurd (L.symm.trans d) c, fun _ => ?_⟩
      rw [L, List.drop_append_of_le_length (by omega)]
      generalize List.drop (lastE a + 1).toNat a = u at y2 y3
      have l2 : s.2.2.length = min 1043 u.length := by rw [y2, List.length_take]
      unfold rst
      rw [if_neg hx]
      by_cases d : 1043 ≤ s.2.2.length
      · rw [if_pos d]
        have : 1043 ≤ u.length := by omega
        refine ⟨y1, ?_, ?_⟩
        · rw [List.take_append_of_le_length this]; exact y2
        · simp; omega
      · rw [if_neg d, if_pos y1]
        refine ⟨y1, ?_, ?_⟩
        · show s.2.2 ++ [x] = _
          rw [y2, List.take_of_length_le (by omega), List.take_of_length_le (by simp; omega)]
        · show (s.2.1 = true) ↔ _
          rw [y3, List.length_append, List.length_singleton]; omega
theorem ri_go : ∀ (b a : List UInt8) (s : Rd), RI a s → RI (a ++ b) (rfold s b)
  | [], a, s, h => by rw [List.append_nil]; exact h
  | x :: b, a, s, h => by
    have := ri_go b (a ++ [x]) (rst s x) (ri_step h x)
    rw [List.append_assoc] at this
    exact this
theorem ri (a : List UInt8) : RI a (rfold (false, false, []) a) := ri_go a [] _ ⟨fun _ => rfl, fun h => absurd rfl h⟩
theorem pc_long {u : List UInt8} (h : 1042 < u.length) : pc u = none := by
  unfold pc
  cases hb : bare u with
  | none => rfl
  | some i =>
    dsimp only
    rw [if_neg]
    intro o
    have e := bare_back hb
    have := stf_len i
    rw [e] at this
    have := o.1
    have := o.2.1
    omega
theorem emit_at (a : List UInt8) : emit (rfold (false, false, []) a) 126 = if lastE a = -1 then [] else pcL (a.drop (lastE a + 1).toNat) := by
  have R := ri a
  by_cases c : lastE a = -1
  · rw [if_pos c, R.no c]
    unfold emit
    rw [if_neg (by simp)]
  · obtain ⟨y1, y2, y3⟩ := R.yes c
    rw [if_neg c]
    unfold emit
    by_cases d : 1043 < (a.drop (lastE a + 1).toNat).length
    · rw [if_neg (fun q => by rw [y3.2 d] at q; exact absurd q.2.2 (by decide)), pcL_none (pc_long (by omega))]
    · have f : (rfold (false, false, []) a).2.1 = false := by
        cases g : (rfold (false, false, []) a).2.1 with
        | false => rfl
        | true => exact absurd (y3.1 g) d
      rw [if_pos ⟨rfl, y1, f⟩, y2, List.take_of_length_le (by omega)]
theorem emit_othE {s : Rd} {x : UInt8} (h : x ≠ 126) : emit s x = [] := by unfold emit; rw [if_neg fun c => h c.1]
theorem scan_take {b : List UInt8} {i : Nat} (h : i < b.length) : scan (b.take (i + 1)) = scan (b.take i) ++ emit (rfold (false, false, []) (b.take i)) (b.getD i 0) := msgs_step _ h
/-- What the document's All has behind some bytes. -/
structure AIn (b : List UInt8) (i : Nat) (out : List Msg) (last : Int) : Prop where
  c1 : out = scan (b.take i)
  c2 : last = lastE (b.take i)
theorem ain_0 (b : List UInt8) : AIn b 0 [] (-1) := ⟨rfl, rfl⟩
theorem last_take {b : List UInt8} {i : Nat} (h : i < b.length) : lastE (b.take (i + 1)) = if b.getD i 0 = 126 then (i : Int) else lastE (b.take i) := by
  rw [take_step b 0 h, last_snoc, List.length_take, Nat.min_eq_left (by omega)]
theorem ain_oth {b : List UInt8} {i j : Nat} {out : List Msg} {last : Int} (h : AIn b i out last) (hi : i < b.length) (hj : j = i + 1) (hx : b.getD i 0 ≠ 126) : AIn b j out last := by
  subst hj
  refine ⟨?_, ?_⟩
  · rw [scan_take hi, emit_othE hx, List.append_nil]; exact h.c1
  · rw [last_take hi, if_neg hx]; exact h.c2
theorem ain_no {b : List UInt8} {i j : Nat} {out : List Msg} {last la : Int} (h : AIn b i out last) (hi : i < b.length) (hj : j = i + 1) (hla : la = i) (hx : b.getD i 0 = 126) (hn : 0 ≤ last → i - last < 1100 → pc ((b.take i).drop (last + 1).toNat) = none) : AIn b j out la := by
  subst hj
  refine ⟨?_, ?_⟩
  · rw [scan_take hi, hx, emit_at, ← h.c2, ← h.c1]
    split
    · rw [List.append_nil]
    · rename_i c
      have lo := last_lo (b.take i)
      rw [← h.c2] at lo
      by_cases d : i - last < 1100
      · rw [pcL_none (hn (by omega) d), List.append_nil]
      · rw [pcL_none (pc_long (by rw [List.length_drop, List.length_take]; omega)), List.append_nil]
  · rw [last_take hi, if_pos hx]; exact hla
theorem ain_yes {b : List UInt8} {i j : Nat} {out out2 : List Msg} {last la : Int} {t : Int × Int × List UInt8} (h : AIn b i out last) (hi : i < b.length) (hj : j = i + 1) (hla : la = i) (hx : b.getD i 0 = 126) (hl : 0 ≤ last) (hp : pc ((b.take i).drop (last + 1).toNat) = some t) (ho : out2 = out ++ [mkM t]) : AIn b j out2 la := by
  subst hj
  refine ⟨?_, ?_⟩
  · rw [scan_take hi, hx, emit_at, ← h.c2, ← h.c1, if_neg (by omega), pcL_of hp, ho]
  · rw [last_take hi, if_pos hx]; exact hla
/-- What is kept of some pieces. -/
def keep (p : List (List UInt8)) : List UInt8 := (p.filter fun u => decide (u.length ≤ 16384)).flatten
theorem keep_app (p q : List (List UInt8)) : keep (p ++ q) = keep p ++ keep q := by unfold keep; rw [List.filter_append, List.flatten_append]
theorem keep_take {p : List (List UInt8)} {i : Nat} (h : i < p.length) : keep (p.take (i + 1)) = keep (p.take i) ++ if (p.getD i []).length ≤ 16384 then p.getD i [] else [] := by
  rw [take_step p [] h, keep_app]
  congr 1
  unfold keep
  by_cases c : (p.getD i []).length ≤ 16384
  · rw [if_pos c, List.filter_cons_of_pos (by simpa using c)]; simp
  · rw [if_neg c, List.filter_cons_of_neg (by simpa using c)]; rfl
theorem keep_len : ∀ (p : List (List UInt8)), (keep p).length ≤ p.flatten.length
  | [] => Nat.le_refl _
  | u :: p => by
    have := keep_len p
    have e : keep (u :: p) = keep [u] ++ keep p := keep_app [u] p
    have f : (keep [u]).length ≤ u.length := by
      unfold keep
      by_cases c : u.length ≤ 16384
      · rw [List.filter_cons_of_pos (by simpa using c)]; simp
      · rw [List.filter_cons_of_neg (by simpa using c)]; simp
    rw [e, List.length_append, List.flatten_cons, List.length_append]; omega
theorem flat_take : ∀ (p : List (List UInt8)) (i : Nat), (p.take i).flatten.length ≤ p.flatten.length
  | [], i => by simp
  | u :: p, 0 => by simp
  | u :: p, i + 1 => by
    have := flat_take p i
    rw [List.take_succ_cons, List.flatten_cons, List.flatten_cons, List.length_append, List.length_append]; omega
theorem get_flat : ∀ (p : List (List UInt8)) (i : Nat), (p.getD i []).length ≤ p.flatten.length
  | [], i => by simp
  | u :: p, 0 => by simp
  | u :: p, i + 1 => by
    have := get_flat p i
    rw [List.getD_cons_succ, List.flatten_cons, List.length_append]; omega
/-- What the law has behind some pieces. -/
structure SIn (p : List (List UInt8)) (i : Nat) (all : List UInt8) (told : Nat) (bg lg : Bool) (u : List UInt8) : Prop where
  c1 : all = keep (p.take i)
  c2 : (bg, lg, u) = rfold (false, false, []) all
  c3 : told = (scan all).length
theorem sin_0 (p : List (List UInt8)) : SIn p 0 [] 0 false false [] := ⟨rfl, rfl, rfl⟩
theorem sin_len {p : List (List UInt8)} {i : Nat} {all : List UInt8} {told : Nat} {bg lg : Bool} {u : List UInt8} (h : SIn p i all told bg lg u) : all.length ≤ p.flatten.length := by
  rw [h.c1]
  exact Nat.le_trans (keep_len _) (flat_take _ _)
theorem sin_long {p : List (List UInt8)} {i j : Nat} {all : List UInt8} {told : Nat} {bg lg : Bool} {u : List UInt8} (h : SIn p i all told bg lg u) (hi : i < p.length) (hj : j = i + 1) (hl : 16384 < (p.getD i []).length) : SIn p j all told bg lg u := by
  subst hj
  exact ⟨by rw [keep_take hi, if_neg (by omega), List.append_nil]; exact h.c1, h.c2, h.c3⟩
theorem sin_step {p : List (List UInt8)} {i j : Nat} {all all2 : List UInt8} {told told2 : Nat} {bg lg b1 l1 : Bool} {u u1 : List UInt8} (h : SIn p i all told bg lg u) (hi : i < p.length) (hj : j = i + 1) (hl : (p.getD i []).length ≤ 16384) (ha : all2 = all ++ p.getD i []) (hr : (b1, l1, u1) = rfold (bg, lg, u) (p.getD i [])) (ht : told2 = (scan all2).length) : SIn p j all2 told2 b1 l1 u1 := by
  subst hj
  refine ⟨?_, ?_, ht⟩
  · rw [keep_take hi, if_pos hl, ha, h.c1]
  · rw [ha, rfold_app, ← h.c2, hr]
theorem sin_scan {p : List (List UInt8)} {i : Nat} {all x : List UInt8} {told : Nat} {bg lg : Bool} {u : List UInt8} (h : SIn p i all told bg lg u) : scan (all ++ x) = scan all ++ msgs (bg, lg, u) x := by
  unfold scan
  rw [msgs_app, ← h.c2]
theorem sin_got {p : List (List UInt8)} {i : Nat} {all x : List UInt8} {told : Nat} {bg lg : Bool} {u : List UInt8} (h : SIn p i all told bg lg u) : told ≤ (scan (all ++ x)).length ∧ (scan (all ++ x)).drop told = msgs (bg, lg, u) x := by
  rw [sin_scan h, h.c3]
  refine ⟨by rw [List.length_append]; omega, by rw [List.drop_left]⟩
theorem scan_len (b : List UInt8) : (scan b).length ≤ b.length := msgs_len b _
end Go.Fr
