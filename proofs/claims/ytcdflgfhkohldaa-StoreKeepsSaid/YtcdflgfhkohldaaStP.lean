import Derived.Test.YtcdflgfhkohldaaStA
namespace Go.St
open Go Go.Eng Go.Rw Go.Lk
set_option linter.unusedVariables false
set_option linter.unusedSimpArgs false
def rdQ (b : List UInt8) : Option (Plan × List UInt8) := match rdN 1048576 b with
  | none => none
  | some (c, b1) => match rdN 1048576 b1 with
    | none => none
    | some (o, b2) => match rdN 8 b2 with
      | none => none
      | some (n, b3) => match rdK 1048576 n.toNat b3 with
        | none => none
        | some (l, b4) => some (⟨c, o, l⟩, b4)
def rdQs : Nat → List UInt8 → Option (List Plan × List UInt8)
  | 0, b => some ([], b)
  | i + 1, b => match rdQs i b with
    | none => none
    | some (l, r) => match rdQ r with
      | none => none
      | some (p, r') => some (l ++ [p], r')
def rdP (b : List UInt8) : Option (List Plan) := match rdN 8 b with
  | none => none
  | some (n, b1) => match rdQs n.toNat b1 with
    | none => none
    | some (l, _) => some l
theorem rdQs_none {b : List UInt8} {i : Nat} (h : rdQs i b = none) : ∀ (d : Nat), rdQs (i + d) b = none
  | 0 => h
  | d + 1 => by
    show (match rdQs (i + d) b with | none => none | some (l, r) => _) = none
    rw [rdQs_none h d]
theorem rdQ_sm {p : Plan} (h : plOk p) (r : List UInt8) : rdQ (planB p ++ r) = some (p, r) := by
  have e : planB p ++ r = smI p.cycle ++ (smI p.offset ++ (smI p.splits.length ++ (sms p.splits ++ r))) := by
    unfold planB
    rw [sms_cons, sms_cons, sms_one]; simp only [List.append_assoc]
  obtain ⟨h1, h2, h3, h4⟩ := h
  unfold rdQ
  rw [e, rdN_sm ⟨by omega, by omega⟩ (by decide)]; dsimp only
  rw [rdN_sm ⟨by omega, by omega⟩ (by decide)]; dsimp only
  rw [rdN_sm ⟨by omega, by omega⟩ (by decide)]; dsimp only
  rw [rdK_sm (by decide) h4 r _ (by omega), show ((p.splits.length : Int)).toNat = p.splits.length by omega]
  simp [sms]
theorem plansB_cons (p : Plan) (l : List Plan) : plansB (p :: l) = planB p ++ plansB l := by unfold plansB; rw [List.flatMap_cons]
theorem rdQs_sm {l : List Plan} (hl : ∀ p, p ∈ l → plOk p) (r : List UInt8) : ∀ (i : Nat), i ≤ l.length → rdQs i (plansB l ++ r) = some (l.take i, plansB (l.drop i) ++ r)
  | 0, _ => by simp [rdQs]
  | i + 1, h => by
    have hi : i < l.length := by omega
    have e : l.drop i = l.getD i (dflt 10) :: l.drop (i + 1) := by
      rw [List.drop_eq_getElem_cons hi, List.getD_eq_getElem?_getD, List.getElem?_eq_getElem hi]; rfl
    have hx : l.getD i (dflt 10) ∈ l := by
      rw [List.getD_eq_getElem?_getD, List.getElem?_eq_getElem hi]; exact List.getElem_mem hi
    rw [rdQs, rdQs_sm hl r i (by omega)]
    dsimp only
    rw [e, plansB_cons, List.append_assoc, rdQ_sm (hl _ hx)]
    dsimp only
    rw [take_step l (dflt 10) hi]
theorem rdP_whole {l : List Plan} (h : wholeE l = 0) : rdP (wholeB l) = some l := by
  obtain ⟨h1, h2⟩ := wholeE_0.1 h
  unfold rdP wholeB
  rw [rdN_sm ⟨by omega, by omega⟩ (by decide)]
  dsimp only
  have := rdQs_sm h2 [] l.length (Nat.le_refl _)
  rw [List.append_nil] at this
  rw [show ((l.length : Int)).toNat = l.length by omega, this]
  simp
theorem whole_inj {l l' : List Plan} (h : wholeE l = 0) (h' : wholeE l' = 0) (e : wholeB l = wholeB l') : l = l' := by
  have a := rdP_whole h
  rw [e, rdP_whole h'] at a
  exact (Option.some.inj a).symm
structure TIn (b0 : List UInt8) (bad0 : Bool) (n k : Nat) (bad : Bool) (r : List UInt8) (ks : List Int) : Prop where
  ok : bad = false → bad0 = false ∧ rdK 1048576 k b0 = some (ks, r)
  no : bad = true → bad0 = true ∨ rdK 1048576 n b0 = none
theorem tin_0 (b0 : List UInt8) (bad0 : Bool) (n : Nat) : TIn b0 bad0 n 0 bad0 b0 [] := ⟨fun h => ⟨h, rfl⟩, fun h => .inl h⟩
theorem tin_step {b0 : List UInt8} {bad0 : Bool} {n k : Nat} {bad bd : Bool} {r r' : List UInt8} {ks ks' : List Int} {v : Int} (h : TIn b0 bad0 n k bad r ks) (hk : k < n) (hv : v = oneV 1048576 r) (hr : r' = oneR 1048576 r) (hb : bd = (bad || oneB 1048576 r)) (hs : ks' = ks ++ [v]) : TIn b0 bad0 n (k + 1) bd r' ks' := by
  subst hv; subst hr; subst hs
  cases bad with
  | true => exact ⟨fun e => (by rw [e] at hb; cases hb), fun _ => h.no rfl⟩
  | false =>
    obtain ⟨h1, h2⟩ := h.ok rfl
    rw [Bool.false_or] at hb
    refine ⟨fun e => ⟨h1, ?_⟩, fun e => .inr ?_⟩
    · rw [e] at hb
      rw [rdK, h2]; dsimp only
      rw [rdN_ok hb.symm]
    · rw [e] at hb
      have : rdK 1048576 (k + 1) b0 = none := by
        rw [rdK, h2]; dsimp only
        rw [rdN_no hb.symm]
      have := rdK_none this (n - (k + 1))
      rwa [show k + 1 + (n - (k + 1)) = n by omega] at this
structure PIn (b : List UInt8) (i : Nat) (bad : Bool) (r : List UInt8) (l : List Plan) : Prop where
  ok : bad = false → oneB 8 b = false ∧ rdQs i (oneR 8 b) = some (l, r)
  no : bad = true → rdP b = none
theorem pin_0 {b r : List UInt8} {bad : Bool} (hb : bad = (false || oneB 8 b)) (hr : r = oneR 8 b) : PIn b 0 bad r [] := by
  subst hr
  rw [Bool.false_or] at hb
  refine ⟨fun h => ⟨by rw [← hb, h], rfl⟩, fun h => ?_⟩
  unfold rdP
  rw [rdN_no (by rw [← hb, h])]
theorem pin_none {b : List UInt8} {j : Nat} (h1 : oneB 8 b = false) (h : rdQs j (oneR 8 b) = none) (hj : j ≤ (oneV 8 b).toNat) : rdP b = none := by
  unfold rdP
  rw [rdN_ok h1]; dsimp only
  have := rdQs_none h ((oneV 8 b).toNat - j)
  rw [show j + ((oneV 8 b).toNat - j) = (oneV 8 b).toNat by omega] at this
  rw [this]
theorem pin_step {b r r1 r2 r3 r4 : List UInt8} {i : Nat} {bad b1 b2 b3 b4 : Bool} {l l' : List Plan} {n c o m : Int} {ks : List Int} (h : PIn b i bad r l) (hn : n = oneV 8 b) (hi : i < n.toNat)
    (hc : c = oneV 1048576 r) (hr1 : r1 = oneR 1048576 r) (hb1 : b1 = (bad || oneB 1048576 r))
    (ho : o = oneV 1048576 r1) (hr2 : r2 = oneR 1048576 r1) (hb2 : b2 = (b1 || oneB 1048576 r1))
    (hm : m = oneV 8 r2) (hr3 : r3 = oneR 8 r2) (hb3 : b3 = (b2 || oneB 8 r2))
    {k : Nat} (ht : TIn r3 b3 m.toNat k b4 r4 ks) (hk : b4 = false → k = m.toNat) (hl : l' = l ++ [⟨c, o, ks⟩]) : PIn b (i + 1) b4 r4 l' := by
  subst hn; subst hc; subst hr1; subst ho; subst hr2; subst hm; subst hr3; subst hl
  cases bad with
  | true =>
    have n := h.no rfl
    refine ⟨fun e => ?_, fun _ => n⟩
    obtain ⟨h1, h2⟩ := ht.ok e
    rw [hb3, hb2, hb1] at h1
    simp at h1
  | false =>
    obtain ⟨h1, h2⟩ := h.ok rfl
    refine ⟨fun e => ⟨h1, ?_⟩, fun e => ?_⟩
    · obtain ⟨h3, h4⟩ := ht.ok e
      rw [hb3, hb2, hb1] at h3
      simp only [Bool.false_or, Bool.or_eq_false_iff] at h3
      rw [rdQs, h2]; dsimp only
      unfold rdQ
      rw [rdN_ok h3.1.1]; dsimp only
      rw [rdN_ok h3.1.2]; dsimp only
      rw [rdN_ok h3.2]; dsimp only
      rw [hk e] at h4
      rw [h4]
    · refine pin_none (j := i + 1) h1 ?_ (by omega)
      rw [rdQs, h2]; dsimp only
      have : rdQ r = none := by
        unfold rdQ
        cases e1 : oneB 1048576 r with
        | true => rw [rdN_no e1]
        | false =>
          rw [rdN_ok e1]; dsimp only
          cases e2 : oneB 1048576 (oneR 1048576 r) with
          | true => rw [rdN_no e2]
          | false =>
            rw [rdN_ok e2]; dsimp only
            cases e3 : oneB 8 (oneR 1048576 (oneR 1048576 r)) with
            | true => rw [rdN_no e3]
            | false =>
              rw [rdN_ok e3]; dsimp only
              rcases ht.no e with h5 | h5
              · rw [hb3, hb2, hb1, e1, e2, e3] at h5
                cases h5
              · rw [h5]
      rw [this]
theorem pin_end {b r : List UInt8} {i : Nat} {l : List Plan} (h : PIn b i false r l) (hi : i = (oneV 8 b).toNat) : rdP b = some l := by
  obtain ⟨h1, h2⟩ := h.ok rfl
  unfold rdP
  rw [rdN_ok h1]; dsimp only
  rw [← hi, h2]
structure PR (b : List UInt8) (e : Int) (l : List Plan) : Prop where
  ok : e = 0 → wholeE l = 0 ∧ wholeB l = b
  no : e ≠ 0 → e = 8 ∧ l = [] ∧ ∀ l', wholeE l' = 0 → wholeB l' ≠ b
theorem pr_yes {b : List UInt8} {l : List Plan} (h : wholeE l = 0) (hw : wholeO l = b) : PR b 0 l := ⟨fun _ => ⟨h, by unfold wholeO at hw; rwa [if_pos h] at hw⟩, fun h => absurd rfl h⟩
theorem pr_bad {b : List UInt8} (h : rdP b = none) : PR b 8 [] := ⟨fun h => absurd h (by decide), fun _ => ⟨rfl, rfl, fun l' h1 h2 => by rw [← h2, rdP_whole h1] at h; cases h⟩⟩
theorem pr_no {b : List UInt8} {l : List Plan} (h : rdP b = some l) (hc : ¬ (wholeE l = 0 ∧ wholeO l = b)) : PR b 8 [] := ⟨fun h => absurd h (by decide), fun _ => ⟨rfl, rfl, fun l' h1 h2 => by
  rw [← h2, rdP_whole h1] at h
  cases h
  exact hc ⟨h1, by unfold wholeO; rw [if_pos h1]; exact h2⟩⟩⟩
theorem PR.uniq {b : List UInt8} {e e' : Int} {l l' : List Plan} (h : PR b e l) (h' : PR b e' l') : e = e' ∧ l = l' := by
  by_cases c : e = 0 <;> by_cases c' : e' = 0
  · exact ⟨by rw [c, c'], whole_inj (h.ok c).1 (h'.ok c').1 ((h.ok c).2.trans (h'.ok c').2.symm)⟩
  · exact absurd (h.ok c).2 ((h'.no c').2.2 _ (h.ok c).1)
  · exact absurd (h'.ok c').2 ((h.no c).2.2 _ (h'.ok c').1)
  · exact ⟨(h.no c).1.trans (h'.no c').1.symm, (h.no c).2.1.trans (h'.no c').2.1.symm⟩
theorem PR.len {b : List UInt8} {e : Int} {l : List Plan} (h : PR b e l) : l.length ≤ 8 := by
  by_cases c : e = 0
  · exact (wholeE_0.1 (h.ok c).1).1
  · rw [(h.no c).2.1]; simp
noncomputable def blkIn (m : Int) (ps : List Plan) : List UInt8 := smI m ++ wholeO ps
noncomputable def blkB (m : Int) (ps : List Plan) : List UInt8 := smI ((blkIn m ps).length : Int) ++ blkIn m ps
noncomputable def blkE (g m : Int) (ps : List Plan) (n : Int) : Int := if n < 1 ∨ 32 < n then 2 else if g < 1 ∨ 4611686018427387904 ≤ g ∨ 3 < m then 190 else if wholeE ps ≠ 0 then wholeE ps else if 48 * n < ((blkB m ps).length : Int) then 190 else 0
noncomputable def blkP (m : Int) (ps : List Plan) (n : Nat) : List UInt8 := blkB m ps ++ List.replicate (48 * n - (blkB m ps).length) 0
def blk1 (g : Int) (b : List UInt8) (i : Nat) : List UInt8 := putL g.toNat 8 ++ ((b.drop (48 * i)).take 48 ++ putL g.toNat 8)
def blks (g : Int) (b : List UInt8) (n : Nat) : List (List UInt8) := (List.range n).map (blk1 g b)
noncomputable def blkO (g m : Int) (ps : List Plan) (n : Int) : List (List UInt8) := if blkE g m ps n = 0 then blks g (blkP m ps n.toNat) n.toNat else []
theorem blkE_0 {g m n : Int} {ps : List Plan} : blkE g m ps n = 0 ↔ (1 ≤ n ∧ n ≤ 32) ∧ (1 ≤ g ∧ g < 4611686018427387904) ∧ m ≤ 3 ∧ wholeE ps = 0 ∧ ((blkB m ps).length : Int) ≤ 48 * n := by
  unfold blkE
  split
  · constructor <;> intro h <;> omega
  · split
    · constructor <;> intro h <;> omega
    · split
      · rename_i h; constructor
        · intro c; exact absurd c h
        · intro c; exact absurd c.2.2.2.1 h
      · rename_i h
        split
        · constructor <;> intro h <;> omega
        · constructor
          · intro _; exact ⟨by omega, by omega, by omega, by omega, by omega⟩
          · intro _; rfl
theorem blkIn_len (m : Int) (ps : List Plan) : (blkIn m ps).length ≤ 1010 := by
  unfold blkIn
  rw [List.length_append]
  have := smI_len m
  have := wholeO_len ps
  omega
theorem blkB_len (m : Int) (ps : List Plan) : (blkB m ps).length ≤ 1020 := by
  unfold blkB
  rw [List.length_append]
  have := smI_len ((blkIn m ps).length : Int)
  have := blkIn_len m ps
  omega
theorem blkP_len {m : Int} {ps : List Plan} {n : Nat} (h : (blkB m ps).length ≤ 48 * n) : (blkP m ps n).length = 48 * n := by
  unfold blkP
  rw [List.length_append, List.length_replicate]; omega
theorem blk1_len {g : Int} {b : List UInt8} {i : Nat} (h : 48 * i + 48 ≤ b.length) : (blk1 g b i).length = 64 := by
  unfold blk1
  rw [List.length_append, List.length_append, putL_len, List.length_take, List.length_drop]; omega
theorem blks_len (g : Int) (b : List UInt8) (n : Nat) : (blks g b n).length = n := by simp [blks]
theorem blks_succ (g : Int) (b : List UInt8) (n : Nat) : blks g b (n + 1) = blks g b n ++ [blk1 g b n] := by simp [blks, List.range_succ]
theorem blks_get {g : Int} {b : List UInt8} {n i : Nat} (h : i < n) : (blks g b n).getD i [] = blk1 g b i := by
  unfold blks
  rw [List.getD_eq_getElem?_getD, List.getElem?_map, List.getElem?_range h]; rfl
theorem blkO_len {g m n : Int} {ps : List Plan} (h : blkE g m ps n = 0) : (blkO g m ps n).length = n.toNat := by
  unfold blkO; rw [if_pos h, blks_len]
structure KeptIs (bl : List (List UInt8)) (g m : Int) (ps : List Plan) : Prop where
  m0 : 0 ≤ m
  e : blkE g m ps bl.length = 0
  o : blkO g m ps bl.length = bl
def midL (bl : List (List UInt8)) : List UInt8 := bl.flatMap fun x => (x.drop 8).take 48
theorem midL_len {bl : List (List UInt8)} (h : ∀ x, x ∈ bl → x.length = 64) : (midL bl).length = 48 * bl.length := by
  induction bl with
  | nil => rfl
  | cons x r ih =>
    have ih := ih fun y hy => h y (by simp [hy])
    have hx := h x (by simp)
    unfold midL at ih ⊢
    rw [List.flatMap_cons, List.length_append, ih, List.length_take, List.length_drop, List.length_cons]; omega
theorem midL_step {bl : List (List UInt8)} {i : Nat} (h : i < bl.length) : midL (bl.take (i + 1)) = midL (bl.take i) ++ ((bl.getD i []).drop 8).take 48 := by
  unfold midL
  rw [take_step bl [] h, List.flatMap_append]; simp
theorem midL_blks (g : Int) (b : List UInt8) : ∀ n, 48 * n ≤ b.length → midL (blks g b n) = b.take (48 * n)
  | 0, _ => by simp [blks, midL]
  | n + 1, h => by
    have ih := midL_blks g b n (by omega)
    have e : (putL g.toNat 8).length = 8 := putL_len _ _
    rw [blks_succ]
    unfold midL at ih ⊢
    rw [List.flatMap_append, ih]
    simp only [List.flatMap_cons, List.flatMap_nil, List.append_nil]
    unfold blk1
    rw [List.drop_append_of_le_length (by omega), List.drop_of_length_le (by omega), List.nil_append, List.take_append_of_le_length (by rw [List.length_take, List.length_drop]; omega), List.take_take, Nat.min_self, show 48 * (n + 1) = 48 * n + 48 by omega, List.take_add]
theorem rg_sm {v : Int} (hv : 0 ≤ v ∧ v ≤ 9223372036854775807) (r : List UInt8) : readG 0 0 (smI v ++ r) = (v.toNat, (smI v).length, 0) := by
  have e : (v % 18446744073709551616).toNat = v.toNat := by omega
  have := read_small 10 0 0 v.toNat r rfl (by omega) (by show v.toNat < 18446744073709551616; omega) (fun c => absurd c (by omega))
  unfold smI smallL
  rw [e, this]
  simp
def gN (b : List UInt8) : Nat := (readG 0 0 b).1
def gK (b : List UInt8) : Nat := (readG 0 0 b).2.1
def gE (b : List UInt8) : Nat := (readG 0 0 b).2.2
def inL (b : List UInt8) : List UInt8 := (b.drop (gK b)).take (gN b)
def gV (xs : List UInt8) : Int := if getOk xs = true then (getL xs : Int) else 0
structure Facts (bl : List (List UInt8)) (g m : Int) (ps : List Plan) : Prop where
  ge : gV ((bl.getD 0 []).take 8) = g
  gl : 1 ≤ g ∧ g < 4611686018427387904
  e1 : gE (midL bl) = 0
  n1 : 1 ≤ gN (midL bl)
  n2 : gN (midL bl) ≤ (midL bl).length - gK (midL bl)
  k1 : gK (midL bl) ≤ (midL bl).length
  e2 : gE (inL (midL bl)) = 0
  me : (gN (inL (midL bl)) : Int) = m
  ml : 0 ≤ m ∧ m ≤ 3
  p : PR ((inL (midL bl)).drop (gK (inL (midL bl)))) 0 ps
theorem gV_put {g : Int} (h : 1 ≤ g ∧ g < 4611686018427387904) : gV (putL g.toNat 8) = g := by
  unfold gV
  rw [if_pos (by unfold getOk; rw [putL_len]; decide), getL_putL]
  have : g.toNat % 256 ^ 8 = g.toNat := Nat.mod_eq_of_lt (by
    have : (256 : Nat) ^ 8 = 18446744073709551616 := by decide
    omega)
  rw [this]; omega
theorem smI_pos (n : Int) : 1 ≤ (smI n).length := by
  unfold smI smallL smallF
  split <;> simp
theorem KeptIs.facts {bl : List (List UInt8)} {g m : Int} {ps : List Plan} (h : KeptIs bl g m ps) : Facts bl g m ps := by
  obtain ⟨⟨e1, e2⟩, e3, e4, e5, e6⟩ := blkE_0.1 h.e
  have ho := h.o
  unfold blkO at ho
  rw [if_pos h.e, show ((bl.length : Int)).toNat = bl.length by omega] at ho
  have hP : (blkP m ps bl.length).length = 48 * bl.length := blkP_len (by omega)
  have hm : midL bl = blkP m ps bl.length := by
    have := midL_blks g (blkP m ps bl.length) bl.length (by omega)
    rw [ho] at this
    rw [this, List.take_of_length_le (by omega)]
  have hl := blkIn_len m ps
  have hr : readG 0 0 (blkP m ps bl.length) = ((blkIn m ps).length, (smI ((blkIn m ps).length : Int)).length, 0) := by
    unfold blkP blkB
    rw [List.append_assoc, rg_sm ⟨by omega, by omega⟩]; simp
  have hin : inL (blkP m ps bl.length) = blkIn m ps := by
    unfold inL gK gN
    rw [hr]
    unfold blkP
    dsimp only
    unfold blkB
    rw [List.append_assoc, List.drop_left, List.take_left]
  have hr2 : readG 0 0 (blkIn m ps) = (m.toNat, (smI m).length, 0) := by
    unfold blkIn
    rw [rg_sm ⟨h.m0, by omega⟩]
  have hbl : (blkB m ps).length = (smI ((blkIn m ps).length : Int)).length + (blkIn m ps).length := by unfold blkB; rw [List.length_append]
  refine ⟨?_, e3, ?_, ?_, ?_, ?_, ?_, ?_, ⟨h.m0, e4⟩, ?_⟩
  · rw [← ho, blks_get (by omega)]
    unfold blk1
    rw [List.take_append_of_le_length (by rw [putL_len]; omega), List.take_of_length_le (by rw [putL_len]; omega), gV_put e3]
  · rw [hm]; unfold gE; rw [hr]
  · rw [hm]; unfold gN; rw [hr]
    have := smI_pos m
    unfold blkIn
    rw [List.length_append]; omega
  · rw [hm]; unfold gN gK; rw [hr, hP]; dsimp only; omega
  · rw [hm]; unfold gK; rw [hr, hP]; dsimp only; omega
  · rw [hm, hin]; unfold gE; rw [hr2]
  · rw [hm, hin]; unfold gN; rw [hr2]; dsimp only; have := h.m0; omega
  · rw [hm, hin]
    have : gK (blkIn m ps) = (smI m).length := by unfold gK; rw [hr2]
    rw [this]
    unfold blkIn
    rw [List.drop_left]
    exact pr_yes e5 rfl
theorem Facts.uniq {bl : List (List UInt8)} {g m g' m' : Int} {ps ps' : List Plan} (h : Facts bl g m ps) (h' : Facts bl g' m' ps') : g = g' ∧ m = m' ∧ ps = ps' :=
  ⟨h.ge.symm.trans h'.ge, h.me.symm.trans h'.me, (h.p.uniq h'.p).2⟩
structure KF (bl : List (List UInt8)) (h : Bool) (g m : Int) (ps : List Plan) : Prop where
  yes : h = true → KeptIs bl g m ps
  no : h = false → g = 0 ∧ m = 0 ∧ ps = [] ∧ ∀ g m ps, ¬ KeptIs bl g m ps
theorem KF.uniq {bl : List (List UInt8)} {h h' : Bool} {g m g' m' : Int} {ps ps' : List Plan} (a : KF bl h g m ps) (b : KF bl h' g' m' ps') : h = h' ∧ g = g' ∧ m = m' ∧ ps = ps' := by
  cases h <;> cases h'
  · obtain ⟨a1, a2, a3, -⟩ := a.no rfl
    obtain ⟨b1, b2, b3, -⟩ := b.no rfl
    subst a1; subst a2; subst a3
    exact ⟨rfl, b1.symm, b2.symm, b3.symm⟩
  · exact absurd (b.yes rfl) ((a.no rfl).2.2.2 _ _ _)
  · exact absurd (a.yes rfl) ((b.no rfl).2.2.2 _ _ _)
  · have := (a.yes rfl).facts.uniq (b.yes rfl).facts
    exact ⟨rfl, this⟩
theorem kf_no {bl : List (List UInt8)} (h : ∀ g m ps, ¬ Facts bl g m ps) : KF bl false 0 0 [] := ⟨fun e => (by cases e), fun _ => ⟨rfl, rfl, rfl, fun g m ps k => h g m ps k.facts⟩⟩
theorem KF.in {bl : List (List UInt8)} {h : Bool} {g m : Int} {ps : List Plan} (a : KF bl h g m ps) : (0 ≤ g ∧ g < 4611686018427387904) ∧ (0 ≤ m ∧ m ≤ 3) ∧ ps.length ≤ 8 := by
  cases h
  · obtain ⟨rfl, rfl, rfl, -⟩ := a.no rfl
    simp
  · have := (a.yes rfl).facts
    exact ⟨⟨by have := this.gl; omega, this.gl.2⟩, this.ml, this.p.len⟩
end Go.St
namespace Go.St
open Go Go.Eng Go.Rw Go.Lk Go.Bk
set_option linter.unusedVariables false
set_option linter.unusedSimpArgs false
noncomputable def mayE (g m : Int) (ps : List Plan) : Int := if g < 1 ∨ 4611686018427387904 ≤ g ∨ 3 < m then 190 else wholeE ps
theorem blkE_2 {g m n : Int} {ps : List Plan} (h : n < 1 ∨ 32 < n) : 2 = blkE g m ps n := by unfold blkE; rw [if_pos h]
theorem blkE_may {g m n e : Int} {ps : List Plan} (h : ¬ (n < 1 ∨ 32 < n)) (he : e = mayE g m ps) (hz : e ≠ 0) : e = blkE g m ps n := by
  unfold blkE
  rw [if_neg h]
  unfold mayE at he
  split
  · rename_i c; rw [if_pos c] at he; exact he
  · rename_i c; rw [if_neg c] at he; rw [if_pos (by rw [← he]; exact hz)]; exact he
theorem blkE_190 {g m n : Int} {ps : List Plan} (h : ¬ (n < 1 ∨ 32 < n)) (he : mayE g m ps = 0) (hz : 48 * n < ((blkB m ps).length : Int)) : 190 = blkE g m ps n := by
  unfold blkE
  unfold mayE at he
  rw [if_neg h]
  split
  · rfl
  · rename_i c; rw [if_neg c] at he; rw [if_neg (show ¬ wholeE ps ≠ 0 from fun c => c he)]
theorem blkE_ok {g m n : Int} {ps : List Plan} (h : ¬ (n < 1 ∨ 32 < n)) (he : mayE g m ps = 0) (hz : ¬ 48 * n < ((blkB m ps).length : Int)) : blkE g m ps n = 0 := by
  unfold blkE
  unfold mayE at he
  rw [if_neg h]
  split
  · rename_i c; rw [if_pos c] at he; exact he
  · rename_i c; rw [if_neg c] at he; rw [if_neg (show ¬ wholeE ps ≠ 0 from fun c => c he)]
theorem mayE_190 {g m : Int} {ps : List Plan} (h : g < 1 ∨ 4611686018427387904 ≤ g ∨ 3 < m) : 190 = mayE g m ps := by unfold mayE; rw [if_pos h]
theorem mayE_w {g m : Int} {ps : List Plan} (h : ¬ (g < 1 ∨ 4611686018427387904 ≤ g ∨ 3 < m)) : mayE g m ps = wholeE ps := by unfold mayE; rw [if_neg h]
theorem mayE_in (g m : Int) (ps : List Plan) : mayE g m ps = 0 ∨ mayE g m ps = 4 ∨ mayE g m ps = 170 ∨ mayE g m ps = 190 := by
  unfold mayE
  split
  · exact .inr (.inr (.inr rfl))
  · rcases wholeE_cases ps with h | h | h
    · exact .inl h
    · exact .inr (.inl h)
    · exact .inr (.inr (.inl h))
theorem blkE_in (g m n : Int) (ps : List Plan) : 0 ≤ blkE g m ps n ∧ blkE g m ps n ≤ 190 := by
  unfold blkE
  have := wholeE_cases ps
  split
  · omega
  · split
    · omega
    · split
      · omega
      · split <;> omega
theorem may_0 {g m : Int} {ps : List Plan} (h : mayE g m ps = 0) : wholeE ps = 0 ∧ 1 ≤ g ∧ g < 4611686018427387904 ∧ m ≤ 3 := by
  unfold mayE at h
  split at h
  · cases h
  · exact ⟨h, by omega, by omega, by omega⟩
structure Laid (g m n : Int) (ps : List Plan) : Prop where
  e : blkE g m ps n = 0
theorem Laid.in {g m n : Int} {ps : List Plan} (h : Laid g m n ps) : (1 ≤ n ∧ n ≤ 32) ∧ (blkP m ps n.toNat).length = 48 * n.toNat := by
  obtain ⟨h1, h2, h3, h4, h5⟩ := blkE_0.1 h.e
  exact ⟨h1, blkP_len (by omega)⟩
theorem Laid.o {g m n : Int} {ps : List Plan} (h : Laid g m n ps) : blkO g m ps n = blks g (blkP m ps n.toNat) n.toNat := by unfold blkO; rw [if_pos h.e]
theorem wholeO_of {ps : List Plan} (h : wholeE ps = 0) : wholeO ps = wholeB ps := by unfold wholeO; rw [if_pos h]
theorem putF_8 {g : Int} (h : 1 ≤ g ∧ g < 4611686018427387904) : putOk g 8 = true := by
  unfold putOk
  have : (256 : Nat) ^ Int.toNat 8 = 18446744073709551616 := by decide
  simp only [decide_eq_true_eq]
  omega
structure B64 (bl : List (List UInt8)) : Prop where
  n : 1 ≤ bl.length ∧ bl.length ≤ 32
  l : ∀ x, x ∈ bl → x.length = 64
theorem B64.get {bl : List (List UInt8)} (h : B64 bl) {i : Nat} (hi : i < bl.length) : (bl.getD i []).length = 64 := by
  rw [List.getD_eq_getElem?_getD, List.getElem?_eq_getElem hi]
  exact h.l _ (List.getElem_mem hi)
theorem kf_none {bl : List (List UInt8)} (h : ∀ g m ps, KeptIs bl g m ps → False) : KF bl false 0 0 [] := ⟨fun e => (by cases e), fun _ => ⟨rfl, rfl, rfl, h⟩⟩
theorem kf_some {bl : List (List UInt8)} {g m : Int} {ps : List Plan} (h : KeptIs bl g m ps) : KF bl true g m ps := ⟨fun _ => h, fun e => by cases e⟩
structure Dc (bl : List (List UInt8)) (g m : Int) (ps : List Plan) : Prop where
  h : ∀ g' m' ps', KeptIs bl g' m' ps' → g = g' ∧ m = m' ∧ ps = ps'
theorem Dc.no {bl : List (List UInt8)} {g m : Int} {ps : List Plan} (h : Dc bl g m ps) (hn : ¬ (blkE g m ps bl.length = 0 ∧ blkO g m ps bl.length = bl)) : KF bl false 0 0 [] := kf_none fun g' m' ps' k => by
  obtain ⟨rfl, rfl, rfl⟩ := h.h _ _ _ k
  exact hn ⟨k.e, k.o⟩
theorem take_eq_all {α : Type} {a b : List α} {i : Nat} (h : a.take i = b.take i) (ha : a.length ≤ i) (hb : b.length ≤ i) : a = b := by
  rwa [List.take_of_length_le ha, List.take_of_length_le hb] at h
def half (d : List UInt8) : Nat := d.length / 64 / 2
def slotN (d : List UInt8) (s : Int) (j : Nat) : List (List UInt8) := (List.range j).map fun n : Nat => blk d (s + n)
def slotL (d : List UInt8) (i : Int) : List (List UInt8) := (List.range (half d)).map fun n : Nat => blk d (i * (half d : Int) + n)
theorem slotL_len (d : List UInt8) (i : Int) : (slotL d i).length = half d := by simp [slotL]
theorem slotN_succ (d : List UInt8) (i : Int) (h : Nat) (n : Nat) : (List.range (n + 1)).map (fun n : Nat => blk d (i * (h : Int) + n)) = (List.range n).map (fun n : Nat => blk d (i * (h : Int) + n)) ++ [blk d (i * (h : Int) + n)] := by
  rw [List.range_succ, List.map_append]; rfl
structure D2 (d : List UInt8) : Prop where
  o : dOk d.length
  h : 2 ≤ d.length / 64
theorem D2.in {d : List UInt8} (h : D2 d) : 1 ≤ half d ∧ half d ≤ 32 ∧ 2 * half d ≤ d.length / 64 ∧ 128 * half d ≤ d.length ∧ d.length ≤ 4096 := by
  obtain ⟨⟨h1, h2, h3⟩, h4⟩ := h
  unfold half
  omega
theorem blk_len {d : List UInt8} {n : Int} (h : 64 * n.toNat + 64 ≤ d.length) : (blk d n).length = 64 := by
  unfold blk
  rw [List.length_take, List.length_drop]; omega
theorem slot_b64 {d : List UInt8} (h : D2 d) {i : Int} (hi : 0 ≤ i ∧ i ≤ 1) : B64 (slotL d i) := by
  obtain ⟨h1, h2, h3, h4, h5⟩ := h.in
  refine ⟨by rw [slotL_len]; omega, fun x hx => ?_⟩
  unfold slotL at hx
  rw [List.mem_map] at hx
  obtain ⟨n, hn, rfl⟩ := hx
  rw [List.mem_range] at hn
  refine blk_len ?_
  rcases (show i = 0 ∨ i = 1 by omega) with rfl | rfl <;> omega
def askD (d : List UInt8) : Int := if dOk d.length then (if d.length / 64 < 2 then 190 else 0) else 180
theorem askD_0 {d : List UInt8} (h : askD d = 0) : D2 d := by
  unfold askD at h
  split at h
  · rename_i o
    split at h
    · cases h
    · exact ⟨o, by omega⟩
  · cases h
theorem askD_in (d : List UInt8) : askD d = 0 ∨ askD d = 180 ∨ askD d = 190 := by
  unfold askD
  split
  · split
    · exact .inr (.inr rfl)
    · exact .inl rfl
  · exact .inr (.inl rfl)
def cnt (h0 : Bool) (g0 : Int) (h1 : Bool) (g1 : Int) : Int := if h0 = true ∧ ¬ (h1 = true ∧ g0 < g1) then 0 else if h1 = true then 1 else -1
theorem cnt_in (h0 : Bool) (g0 : Int) (h1 : Bool) (g1 : Int) : -1 ≤ cnt h0 g0 h1 g1 ∧ cnt h0 g0 h1 g1 ≤ 1 := by
  unfold cnt; split
  · omega
  · split <;> omega
structure Dk (d : List UInt8) (h0 : Bool) (g0 m0 : Int) (p0 : List Plan) (h1 : Bool) (g1 m1 : Int) (p1 : List Plan) : Prop where
  a : KF (slotL d 0) h0 g0 m0 p0
  b : KF (slotL d 1) h1 g1 m1 p1
structure Cd (d : List UInt8) (c g m : Int) (ps : List Plan) : Prop where
  h : ∃ h0 g0 m0 p0 h1 g1 m1 p1, Dk d h0 g0 m0 p0 h1 g1 m1 p1 ∧ c = cnt h0 g0 h1 g1 ∧ (c = 0 → g = g0 ∧ m = m0 ∧ ps = p0) ∧ (c = 1 → g = g1 ∧ m = m1 ∧ ps = p1) ∧ (c = -1 → g = 0 ∧ m = 0 ∧ ps = [])
theorem Cd.in {d : List UInt8} {c g m : Int} {ps : List Plan} (h : Cd d c g m ps) : (-1 ≤ c ∧ c ≤ 1) ∧ (0 ≤ g ∧ g < 4611686018427387904) ∧ (0 ≤ m ∧ m ≤ 3) ∧ ps.length ≤ 8 := by
  obtain ⟨h0, g0, m0, p0, h1, g1, m1, p1, k, hc, a, b, e⟩ := h.h
  have i0 := k.a.in
  have i1 := k.b.in
  have ic := cnt_in h0 g0 h1 g1
  rw [← hc] at ic
  refine ⟨ic, ?_⟩
  rcases (show c = 0 ∨ c = 1 ∨ c = -1 by omega) with x | x | x
  · obtain ⟨rfl, rfl, rfl⟩ := a x; exact i0
  · obtain ⟨rfl, rfl, rfl⟩ := b x; exact i1
  · obtain ⟨rfl, rfl, rfl⟩ := e x; simp
theorem Cd.uniq {d : List UInt8} {c g m c' g' m' : Int} {ps ps' : List Plan} (h : Cd d c g m ps) (h' : Cd d c' g' m' ps') : c = c' ∧ g = g' ∧ m = m' ∧ ps = ps' := by
  obtain ⟨h0, g0, m0, p0, h1, g1, m1, p1, k, hc, a, b, e⟩ := h.h
  obtain ⟨h0', g0', m0', p0', h1', g1', m1', p1', k', hc', a', b', e'⟩ := h'.h
  obtain ⟨rfl, rfl, rfl, rfl⟩ := k.a.uniq k'.a
  obtain ⟨rfl, rfl, rfl, rfl⟩ := k.b.uniq k'.b
  have ic := cnt_in h0 g0 h1 g1
  rw [← hc] at ic
  have hcc : c = c' := hc.trans hc'.symm
  subst hcc
  refine ⟨rfl, ?_⟩
  rcases (show c = 0 ∨ c = 1 ∨ c = -1 by omega) with x | x | x
  · obtain ⟨rfl, rfl, rfl⟩ := a x; obtain ⟨rfl, rfl, rfl⟩ := a' x; exact ⟨rfl, rfl, rfl⟩
  · obtain ⟨rfl, rfl, rfl⟩ := b x; obtain ⟨rfl, rfl, rfl⟩ := b' x; exact ⟨rfl, rfl, rfl⟩
  · obtain ⟨rfl, rfl, rfl⟩ := e x; obtain ⟨rfl, rfl, rfl⟩ := e' x; exact ⟨rfl, rfl, rfl⟩
def mxE (g x : Int) : Int := if x < 4611686018427387904 then max g x else g
def mxB (g : Int) (b : List UInt8) : Int := mxE (mxE g (gV (b.take 8))) (gV (b.drop 56))
def mxL (g : Int) (bl : List (List UInt8)) : Int := bl.foldl mxB g
theorem mxL_step {g : Int} {bl : List (List UInt8)} {i : Nat} (h : i < bl.length) : mxL g (bl.take (i + 1)) = mxB (mxL g (bl.take i)) (bl.getD i []) := by
  unfold mxL
  rw [take_step bl [] h, List.foldl_append]; rfl
theorem mxE_in {g x : Int} (h : 0 ≤ g ∧ g < 4611686018427387904) : 0 ≤ mxE g x ∧ mxE g x < 4611686018427387904 ∧ g ≤ mxE g x := by unfold mxE; split <;> omega
theorem mxB_in {g : Int} {b : List UInt8} (h : 0 ≤ g ∧ g < 4611686018427387904) : 0 ≤ mxB g b ∧ mxB g b < 4611686018427387904 ∧ g ≤ mxB g b := by
  unfold mxB
  have a := mxE_in (x := gV (b.take 8)) h
  have b := mxE_in (x := gV (b.drop 56)) ⟨a.1, a.2.1⟩
  exact ⟨b.1, b.2.1, Int.le_trans a.2.2 b.2.2⟩
theorem mxL_in : ∀ {bl : List (List UInt8)} {g : Int}, (0 ≤ g ∧ g < 4611686018427387904) → 0 ≤ mxL g bl ∧ mxL g bl < 4611686018427387904 ∧ g ≤ mxL g bl
  | [], g, h => ⟨h.1, h.2, Int.le_refl _⟩
  | b :: r, g, h => by
    have a := mxB_in (b := b) h
    have c := mxL_in (bl := r) ⟨a.1, a.2.1⟩
    exact ⟨c.1, c.2.1, Int.le_trans a.2.2 c.2.2⟩
def freeB (bl : List (List UInt8)) (g : Int) : Prop := ∀ x, x ∈ bl → ((x.getD 56 0).toNat : Int) ≠ g % 256
structure Nx (g : Int) (bl : List (List UInt8)) (r : Int) : Prop where
  lo : mxL g bl < r
  fr : freeB bl r
  le : ∀ q, mxL g bl < q → q < r → ¬ freeB bl q
  hi : r ≤ mxL g bl + 33
theorem Nx.uniq {g r r' : Int} {bl : List (List UInt8)} (h : Nx g bl r) (h' : Nx g bl r') : r = r' := by
  rcases Int.lt_trichotomy r r' with c | c | c
  · exact absurd h.fr (h'.le r h.lo c)
  · exact c
  · exact absurd h'.fr (h.le r' h'.lo c)
theorem nodup_le {α : Type} [BEq α] [LawfulBEq α] : ∀ {l m : List α}, l.Nodup → (∀ x, x ∈ l → x ∈ m) → l.length ≤ m.length
  | [], m, _, _ => Nat.zero_le _
  | a :: l, m, hn, hs => by
    have hn := List.nodup_cons.1 hn
    have ha : a ∈ m := hs a (List.mem_cons_self ..)
    have h1 := nodup_le (l := l) (m := m.erase a) hn.2 fun x hx => by
      refine (List.mem_erase_of_ne ?_).2 (hs x (List.mem_cons_of_mem _ hx))
      rintro rfl; exact hn.1 hx
    have h2 := List.length_erase_of_mem ha
    have h3 : 0 < m.length := List.length_pos_of_mem ha
    simp only [List.length_cons]; omega
theorem free_some {bl : List (List UInt8)} (hb : bl.length ≤ 32) (g : Int) : ∃ q, g < q ∧ q ≤ g + 33 ∧ freeB bl q := by
  refine Classical.byContradiction fun hno => ?_
  have hall : ∀ q, g < q → q ≤ g + 33 → ¬ freeB bl q := fun q h1 h2 h3 => hno ⟨q, h1, h2, h3⟩
  have hmem : ∀ x, x ∈ (List.range 33).map (fun i : Nat => (g + 1 + (i : Int)) % 256) → x ∈ bl.map (fun x => ((x.getD 56 0).toNat : Int)) := fun x hx => by
    rw [List.mem_map] at hx
    obtain ⟨i, hi, rfl⟩ := hx
    rw [List.mem_range] at hi
    have h1 := hall (g + 1 + i) (by omega) (by omega)
    unfold freeB at h1
    refine Classical.byContradiction fun hn => h1 fun x hx e => hn ?_
    rw [List.mem_map]
    exact ⟨x, hx, e⟩
  have hnd : ((List.range 33).map (fun i : Nat => (g + 1 + (i : Int)) % 256)).Nodup := by
    rw [List.nodup_iff_pairwise_ne, List.pairwise_map]
    refine List.Pairwise.imp_of_mem (R := fun a b => a ≠ b) (fun ha hb hab e => ?_) (List.nodup_iff_pairwise_ne.1 List.nodup_range)
    rw [List.mem_range] at ha hb
    omega
  have := nodup_le hnd hmem
  simp at this
  omega
structure Sx (g : Int) (bl : List (List UInt8)) (r : Int) : Prop where
  lo : mxL g bl < r
  le : ∀ q, mxL g bl < q → q < r → ¬ freeB bl q
  hi : r ≤ mxL g bl + 33
theorem sx_0 (g : Int) (bl : List (List UInt8)) : Sx g bl (mxL g bl + 1) := ⟨by omega, fun q h1 h2 => by omega, by omega⟩
theorem sx_step {g r : Int} {bl : List (List UInt8)} (hb : bl.length ≤ 32) (h : Sx g bl r) (hf : ¬ freeB bl r) : Sx g bl (r + 1) := by
  have hle : ∀ q, mxL g bl < q → q < r + 1 → ¬ freeB bl q := fun q h1 h2 => by
    by_cases c : q = r
    · subst c; exact hf
    · exact h.le q h1 (by omega)
  refine ⟨by have := h.lo; omega, hle, ?_⟩
  obtain ⟨q, q1, q2, q3⟩ := free_some hb (mxL g bl)
  rcases Int.lt_or_le q (r + 1) with c | c
  · exact absurd q3 (hle q q1 c)
  · omega
theorem sx_end {g r : Int} {bl : List (List UInt8)} (h : Sx g bl r) (hf : freeB bl r) : Nx g bl r := ⟨h.lo, hf, h.le, h.hi⟩
theorem gV_byte {b : List UInt8} (h : b.length = 8) : gV b % 256 = ((b.getD 0 0).toNat : Int) := by
  match b, h with
  | x :: r, h =>
    unfold gV
    rw [if_pos (by unfold getOk; rw [h]; decide)]
    show ((x.toNat + 256 * getL r : Nat) : Int) % 256 = _
    have := x.toNat_lt
    show _ = (x.toNat : Int)
    omega
theorem gV_end {b : List UInt8} (h : b.length = 64) : gV (b.drop 56) % 256 = ((b.getD 56 0).toNat : Int) := by
  rw [gV_byte (by rw [List.length_drop]; omega)]
  rw [List.getD_eq_getElem?_getD, List.getElem?_drop, List.getD_eq_getElem?_getD]
theorem gV_in (b : List UInt8) : 0 ≤ gV b ∧ gV b ≤ 18446744073709551615 := by
  unfold gV
  split
  · rename_i h
    unfold getOk at h
    simp only [decide_eq_true_eq] at h
    have := getL_lt b
    have h2 : 256 ^ b.length ≤ (256 : Nat) ^ 8 := Nat.pow_le_pow_right (by decide) h.2
    have h3 : (256 : Nat) ^ 8 = 18446744073709551616 := by decide
    omega
  · omega
theorem bl_in {m n : Int} {ps : List Plan} {ys us z : List UInt8} {q k : Nat} (hm : 0 ≤ m ∧ m ≤ 255) (h1 : n = m) (h2 : ys = smallL n.toNat) (h3 : ys.length = q) (h4 : us = wholeO ps) (h5 : us.length = k) (hz : z = List.take q ys ++ List.take k (List.drop 0 us)) : z = blkIn m ps ∧ z.length = q + k := by
  subst h1
  rw [List.drop_zero, ← h3, ← h5, List.take_length, List.take_length] at hz
  refine ⟨?_, by rw [hz, List.length_append, h3, h5]⟩
  unfold blkIn smI
  rw [hz, h2, h4, show (n % 18446744073709551616).toNat = n.toNat by omega]
theorem bl_b {m n : Int} {ps : List Plan} {ys z z' : List UInt8} {q k : Nat} (hz : z = blkIn m ps) (hk : z.length = k) (h1 : n = (k : Int)) (h2 : ys = smallL n.toNat) (h3 : ys.length = q) (hz' : z' = List.take q ys ++ List.take k (List.drop 0 z)) : z' = blkB m ps ∧ z'.length = q + k := by
  subst h1
  rw [List.drop_zero, ← h3, ← hk, List.take_length, List.take_length] at hz'
  have := blkIn_len m ps
  refine ⟨?_, by rw [hz', List.length_append, h3, hk]⟩
  unfold blkB smI
  rw [hz', h2, ← hz, hk, show ((k : Int) % 18446744073709551616).toNat = ((k : Int)).toNat by rw [hz] at hk; omega]
theorem bl_p {m n : Int} {ps : List Plan} {z z' : List UInt8} {k j : Nat} (hz : z = blkB m ps) (hk : z.length = k) (hj : k + j = 48 * n.toNat) (hz' : z' = List.take k z ++ List.replicate j (UInt8.ofNat (Int.toNat 0))) : List.take (k + j) (List.drop 0 z') = blkP m ps n.toNat := by
  have e : UInt8.ofNat (Int.toNat 0) = 0 := rfl
  rw [← hk, List.take_length, e] at hz'
  rw [List.drop_zero, List.take_of_length_le (by rw [hz', List.length_append, List.length_replicate]; omega), hz']
  unfold blkP
  rw [← hz, hk, ← hj, Nat.add_sub_cancel_left]
theorem bl_e {g m n e : Int} {ps : List Plan} (hn : 1 ≤ n ∧ n ≤ 32) (hc : (1 ≤ g ∧ g < 4611686018427387904) ∧ m ≤ 3) (he : e = wholeE ps) (h0 : ¬ e = 0) : e = blkE g m ps n := blkE_may (by omega) (by rw [he, mayE_w (by omega)]) h0
theorem bl_q {g m n : Int} {ps : List Plan} (hn : 1 ≤ n ∧ n ≤ 32) (hc : (1 ≤ g ∧ g < 4611686018427387904) ∧ m ≤ 3) (he : 0 = wholeE ps) (hl : ((blkB m ps).length : Int) ≤ 48 * n) : Laid g m n ps := ⟨blkE_ok (by omega) (by rw [mayE_w (by omega), ← he]) (by omega)⟩
theorem blks_app {g : Int} {P : List UInt8} {l z : List (List UInt8)} {i q : Nat} {x : List UInt8} (hl : l = blks g P i) (hi : l.length = i) (hx : x = blk1 g P i) (hq : x.length = q) (hz : z = List.take i l ++ List.take 1 (List.drop 0 [List.take q (List.drop 0 x)])) : z = blks g P (i + 1) ∧ z.length = i + 1 := by
  have hx0 : List.take q (List.drop 0 x) = x := by rw [List.drop_zero, ← hq, List.take_length]
  rw [hx0, ← hi, List.take_length] at hz
  have : z = blks g P (i + 1) := by rw [hz, blks_succ, ← hx, hl]; rfl
  exact ⟨this, by rw [this, blks_len]⟩
structure BIn (g m : Int) (ps : List Plan) (n : Int) (i : Nat) (l : List (List UInt8)) (P G : List UInt8) : Prop where
  l : l = blks g P i
  p : P = blkP m ps n.toNat
  g : G = putL g.toNat 8
theorem bin_step {g m n : Int} {ps : List Plan} {i k : Nat} {l z : List (List UInt8)} {P G ys : List UInt8} (h : BIn g m ps n i l P G) (hi : l.length = i) (hx : ys = blk1 g P i) (hk : ys.length = k) (hz : z = List.take i l ++ List.take 1 (List.drop 0 [List.take k (List.drop 0 ys)])) : BIn g m ps n (i + 1) z P G ∧ z.length = i + 1 := by
  obtain ⟨a, b⟩ := blks_app h.l hi hx hk hz
  exact ⟨⟨a, h.p, h.g⟩, b⟩
theorem bin_0 {g m n : Int} {ps : List Plan} {P G : List UInt8} (hp : P = blkP m ps n.toNat) (hg : G = putL g.toNat 8) : BIn g m ps n 0 [] P G := ⟨rfl, hp, hg⟩
theorem bin_end {g m n : Int} {ps : List Plan} {i : Nat} {l : List (List UInt8)} {P G : List UInt8} (h : BIn g m ps n i l P G) (hl : Laid g m n ps) (hi : i = n.toNat) : l = blkO g m ps n := by rw [hl.o, h.l, h.p, hi]
theorem bl_flat {g n : Int} {P G : List UInt8} {i : Nat} (hG : G = putL g.toNat 8) (hn : n = 48 * (i : Int)) : (List.take 3 (List.drop 0 [G, List.take (Int.toNat 48) (List.drop n.toNat P), G])).flatten = blk1 g P i := by
  subst hG
  have e : n.toNat = 48 * i := by omega
  rw [e]
  unfold blk1
  simp
theorem bl_flen {g n : Int} {P G : List UInt8} {i N : Nat} (hG : G = putL g.toNat 8) (hP : P.length = 48 * N) (hi : i < N) (hn : n = 48 * (i : Int)) : (List.take 3 (List.drop 0 [G, List.take (Int.toNat 48) (List.drop n.toNat P), G])).flatten.length = 64 := by
  rw [bl_flat hG hn, blk1_len (by omega)]
theorem half_tdiv {d : List UInt8} {m : Int} (h : m = ((d.length / 64 : Nat) : Int)) : m.tdiv 2 = (half d : Int) := by
  rw [h, Int.tdiv_eq_ediv_of_nonneg (by omega)]
  unfold half
  omega
def slo (d : List UInt8) (i : Int) : Int := i * (half d : Int)
theorem slo_mul {d : List UInt8} {i n : Int} (hn : n = (half d : Int)) : i * n = slo d i := by rw [hn]; rfl
theorem slo_in {d : List UInt8} {i : Int} (h : D2 d) (hi : 0 ≤ i ∧ i ≤ 1) : 0 ≤ slo d i ∧ 64 * slo d i + 64 * (half d : Int) ≤ d.length ∧ slo d i ≤ 32 := by
  obtain ⟨h1, h2, h3, h4, h5⟩ := h.in
  unfold slo
  rcases (show i = 0 ∨ i = 1 by omega) with rfl | rfl <;> omega
theorem slot_app {d : List UInt8} {i : Int} {l z : List (List UInt8)} {j q : Nat} {x : List UInt8} (hl : l = slotN d (slo d i) j) (hi : l.length = j) (hx : x = blk d (slo d i + j)) (hq : x.length = q) (hz : z = List.take j l ++ List.take 1 (List.drop 0 [List.take q (List.drop 0 x)])) : z = slotN d (slo d i) (j + 1) ∧ z.length = j + 1 := by
  have hx0 : List.take q (List.drop 0 x) = x := by rw [List.drop_zero, ← hq, List.take_length]
  rw [hx0, ← hi, List.take_length] at hz
  have hj : l.length = j := hi
  have : z = slotN d (slo d i) (j + 1) := by unfold slotN at hl ⊢; rw [hz, List.range_succ, List.map_append, hx, ← hl]; rfl
  exact ⟨this, by rw [this]; simp [slotN]⟩
end Go.St
namespace Go.St
open Go Go.Eng Go.Rw Go.Lk Go.Bk
set_option linter.unusedVariables false
set_option linter.unusedSimpArgs false
structure MidI (bl : List (List UInt8)) (i : Nat) (xs : List UInt8) : Prop where
  e : xs = midL (bl.take i)
structure GvI (bl : List (List UInt8)) (g : Int) : Prop where
  e : g = gV ((bl.getD 0 []).take 8)
theorem mid_0 (bl : List (List UInt8)) : MidI bl 0 [] := ⟨by simp [midL]⟩
theorem mid_len {bl : List (List UInt8)} {i : Nat} {xs : List UInt8} (h : MidI bl i xs) (hb : B64 bl) (hi : i ≤ bl.length) : xs.length = 48 * i := by
  rw [h.e, midL_len fun x hx => hb.l x (List.mem_of_mem_take hx), List.length_take, Nat.min_eq_left hi]
theorem mid_step {bl : List (List UInt8)} {i : Nat} {xs z : List UInt8} {q : Nat} (h : MidI bl i xs) (hi : i < bl.length) (hq : xs.length = q) (hz : z = List.take q xs ++ ((bl.getD i []).drop 8).take 48) : MidI bl (i + 1) z := by
  refine ⟨?_⟩
  rw [midL_step hi, hz, ← hq, List.take_length, h.e]
theorem mid_all {bl : List (List UInt8)} {i : Nat} {xs : List UInt8} (h : MidI bl i xs) (hi : i = bl.length) : xs = midL bl := by rw [h.e, hi, List.take_length]
section
variable {bl : List (List UInt8)} {g m : Int} {ps : List Plan} {xs : List UInt8}
theorem kf_g (hg : GvI bl g) (h : 4611686018427387904 ≤ g) : KF bl false 0 0 [] := kf_none fun g' m' ps' k => by
  have f := k.facts
  have := hg.e.trans f.ge
  have := f.gl.2
  omega
theorem kf_1 (hx : xs = midL bl) {a b c : Int} (ha : a = ((readG 0 0 xs).1 : Int)) (hb : b = ((readG 0 0 xs).2.1 : Int)) (hc : c = ((readG 0 0 xs).2.2 : Int)) (h : c ≠ 0 ∨ a < 1 ∨ (xs.length : Int) - b < a) : KF bl false 0 0 [] := kf_none fun g' m' ps' k => by
  have f := k.facts
  have f1 := f.e1
  have f2 := f.n1
  have f3 := f.n2
  have f4 := f.k1
  rw [← hx] at f1 f2 f3 f4
  unfold gE at f1
  unfold gN at f2 f3
  unfold gK at f3 f4
  omega
theorem in_is {a b : Int} {ys : List UInt8} (ha : a = ((readG 0 0 xs).1 : Int)) (hb : b = ((readG 0 0 xs).2.1 : Int)) (hy : ys = List.take a.toNat (List.drop b.toNat xs)) : ys = inL xs := by
  rw [hy]
  unfold inL gN gK
  rw [ha, hb]
  simp
theorem kf_2 (hx : xs = midL bl) {ys : List UInt8} (hy : ys = inL xs) {a c : Int} (ha : a = ((readG 0 0 ys).1 : Int)) (hc : c = ((readG 0 0 ys).2.2 : Int)) (h : c ≠ 0 ∨ 3 < a) : KF bl false 0 0 [] := kf_none fun g' m' ps' k => by
  have f := k.facts
  have f1 := f.e2
  have f2 := f.me
  have f3 := f.ml
  rw [← hx, ← hy] at f1 f2
  unfold gE at f1
  unfold gN at f2
  omega
theorem kf_3 (hx : xs = midL bl) {ys us : List UInt8} (hy : ys = inL xs) {b e : Int} {l : List Plan} (hb : b = ((readG 0 0 ys).2.1 : Int)) (hu : us = ys.drop b.toNat) (hp : PR us e l) (h : e ≠ 0) : KF bl false 0 0 [] := kf_none fun g' m' ps' k => by
  have f := k.facts.p
  rw [← hx, ← hy] at f
  unfold gK at f
  rw [hb, Int.toNat_natCast] at hu
  rw [hu] at hp
  exact h (hp.uniq f).1
theorem dc_of (hg : GvI bl g) (hx : xs = midL bl) {ys us : List UInt8} (hy : ys = inL xs) {a b : Int} (ha : a = ((readG 0 0 ys).1 : Int)) (hb : b = ((readG 0 0 ys).2.1 : Int)) (hu : us = ys.drop b.toNat) (hp : PR us 0 ps) : Dc bl g a ps := ⟨fun g' m' ps' k => by
  have f := k.facts
  have f1 := f.p
  have f2 := f.me
  have f3 := f.ge
  rw [← hx, ← hy] at f1 f2
  unfold gK at f1
  unfold gN at f2
  rw [hb, Int.toNat_natCast] at hu
  rw [hu] at hp
  exact ⟨hg.e.trans f3, ha.trans f2, (hp.uniq f1).2⟩⟩
theorem kf_4 (h : Dc bl g m ps) {e : Int} (he : e = blkE g m ps bl.length) (h0 : e ≠ 0) : KF bl false 0 0 [] := h.no fun c => h0 (he.trans c.1)
structure AgI (bl ag : List (List UInt8)) (g m : Int) (ps : List Plan) (i : Nat) : Prop where
  e : blkE g m ps bl.length = 0
  o : ag = blkO g m ps bl.length
  d : Dc bl g m ps
  t : ag.take i = bl.take i
theorem ag_0 {ag : List (List UInt8)} {e : Int} (h : Dc bl g m ps) (he : e = blkE g m ps bl.length) (h0 : e = 0) (ho : ag = blkO g m ps bl.length) : AgI bl ag g m ps 0 := ⟨by rw [← he, h0], ho, h, rfl⟩
theorem ag_step {ag : List (List UInt8)} {i : Nat} (h : AgI bl ag g m ps i) (hi : i < bl.length) (ha : ag.length = bl.length) (he : ag.getD i [] = bl.getD i []) : AgI bl ag g m ps (i + 1) :=
  ⟨h.e, h.o, h.d, by rw [take_step ag [] (by omega), take_step bl [] hi, h.t, he]⟩
theorem ag_bad {ag : List (List UInt8)} {i : Nat} (h : AgI bl ag g m ps i) (he : ag.getD i [] ≠ bl.getD i []) : KF bl false 0 0 [] := h.d.no fun c => he (by rw [h.o, c.2])
theorem ag_end {ag : List (List UInt8)} {i : Nat} (h : AgI bl ag g m ps i) (hm : 0 ≤ m) (hi : bl.length ≤ i) (ha : ag.length = bl.length) : KF bl true g m ps := by
  have t := h.t
  rw [List.take_of_length_le hi, List.take_of_length_le (by omega)] at t
  exact kf_some ⟨hm, h.e, by rw [← h.o, t]⟩
end
theorem KF.dk {d : List UInt8} {h0 h1 : Bool} {g0 m0 g1 m1 : Int} {p0 p1 : List Plan} (a : KF (slotL d 0) h0 g0 m0 p0) (b : KF (slotL d 1) h1 g1 m1 p1) : Dk d h0 g0 m0 p0 h1 g1 m1 p1 := ⟨a, b⟩
theorem Dk.c0 {d : List UInt8} {h0 h1 : Bool} {g0 m0 g1 m1 : Int} {p0 p1 : List Plan} (k : Dk d h0 g0 m0 p0 h1 g1 m1 p1) (h : h0 = true ∧ (h1 = true → g1 ≤ g0)) : Cd d 0 g0 m0 p0 := by
  have e : cnt h0 g0 h1 g1 = 0 := by
    unfold cnt
    rw [if_pos ⟨h.1, fun c => by have := h.2 c.1; omega⟩]
  exact ⟨_, _, _, _, _, _, _, _, k, e.symm, fun _ => ⟨rfl, rfl, rfl⟩, fun c => absurd c (by decide), fun c => absurd c (by decide)⟩
theorem Dk.c1 {d : List UInt8} {h0 h1 : Bool} {g0 m0 g1 m1 : Int} {p0 p1 : List Plan} (k : Dk d h0 g0 m0 p0 h1 g1 m1 p1) (h : ¬ (h0 = true ∧ (h1 = true → g1 ≤ g0))) (hh : h1 = true) : Cd d 1 g1 m1 p1 := by
  have e : cnt h0 g0 h1 g1 = 1 := by
    unfold cnt
    rw [if_neg (fun c => h ⟨c.1, fun x => by
      rcases Int.lt_or_le g0 g1 with y | y
      · exact absurd ⟨x, y⟩ c.2
      · exact y⟩), if_pos hh]
  exact ⟨_, _, _, _, _, _, _, _, k, e.symm, fun c => absurd c (by decide), fun _ => ⟨rfl, rfl, rfl⟩, fun c => absurd c (by decide)⟩
theorem Dk.c2 {d : List UInt8} {h0 h1 : Bool} {g0 m0 g1 m1 : Int} {p0 p1 : List Plan} (k : Dk d h0 g0 m0 p0 h1 g1 m1 p1) (h : ¬ (h0 = true ∧ (h1 = true → g1 ≤ g0))) (hh : h1 = false) : Cd d (-1) 0 0 [] := by
  have e : cnt h0 g0 h1 g1 = -1 := by
    unfold cnt
    rw [if_neg (fun c => h ⟨c.1, fun x => by rw [hh] at x; cases x⟩), if_neg (by rw [hh]; decide)]
  exact ⟨_, _, _, _, _, _, _, _, k, e.symm, fun c => absurd c (by decide), fun c => absurd c (by decide), fun _ => ⟨rfl, rfl, rfl⟩⟩
structure SlR (d : List UInt8) (i e g m : Int) (ps : List Plan) : Prop where
  a : askD d ≠ 0 → e = askD d ∧ g = 0 ∧ m = 0 ∧ ps = []
  b : askD d = 0 → ¬ (i = 0 ∨ i = 1) → e = 2 ∧ g = 0 ∧ m = 0 ∧ ps = []
  c : askD d = 0 → (i = 0 ∨ i = 1) → (e = 8 ∧ KF (slotL d i) false g m ps) ∨ (e = 0 ∧ KF (slotL d i) true g m ps)
theorem D2.ask {d : List UInt8} (h : D2 d) : askD d = 0 := by
  unfold askD
  rw [if_pos h.o, if_neg (by have := h.h; omega)]
structure RdR (d : List UInt8) (e g m : Int) (ps : List Plan) : Prop where
  a : askD d ≠ 0 → e = askD d ∧ g = 0 ∧ m = 0 ∧ ps = []
  b : askD d = 0 → ∃ c, Cd d c g m ps ∧ ((e = 0 ∧ 0 ≤ c) ∨ (e = 190 ∧ c = -1))
structure MxI (g : Int) (bl : List (List UInt8)) (i : Nat) (x : Int) : Prop where
  e : x = mxL g (bl.take i)
structure FrI (bl : List (List UInt8)) (i : Nat) (r : Int) (f : Bool) : Prop where
  e : f = true ↔ freeB (bl.take i) r
theorem mx_0 (g : Int) (bl : List (List UInt8)) : MxI g bl 0 g := ⟨rfl⟩
theorem mx_step {g x y a b : Int} {bl : List (List UInt8)} {i : Nat} (h : MxI g bl i x) (hi : i < bl.length) (ha : a = gV ((bl.getD i []).take 8)) (hb : b = gV ((bl.getD i []).drop 56)) (hy : y = mxE (mxE x a) b) : MxI g bl (i + 1) y := by
  subst ha; subst hb
  exact ⟨by rw [mxL_step hi, hy, h.e]; rfl⟩
theorem mx_all {g x : Int} {bl : List (List UInt8)} {i : Nat} (h : MxI g bl i x) (hi : bl.length ≤ i) : x = mxL g bl := by rw [h.e, List.take_of_length_le hi]
theorem fr_0 (bl : List (List UInt8)) (r : Int) : FrI bl 0 r true := ⟨⟨fun _ x hx => by simp at hx, fun _ => rfl⟩⟩
theorem fr_step {bl : List (List UInt8)} {i : Nat} {r : Int} {f f' : Bool} (h : FrI bl i r f) (hi : i < bl.length) (hf : f' = true ↔ f = true ∧ (((bl.getD i []).getD 56 0).toNat : Int) ≠ r % 256) : FrI bl (i + 1) r f' := by
  refine ⟨hf.trans ?_⟩
  rw [h.e]
  unfold freeB
  rw [take_step bl [] hi]
  constructor
  · rintro ⟨a, b⟩ x hx
    rcases List.mem_append.1 hx with c | c
    · exact a x c
    · rw [List.mem_singleton.1 c]; exact b
  · intro a
    exact ⟨fun x hx => a x (List.mem_append_left _ hx), a _ (List.mem_append_right _ (List.mem_singleton.2 rfl))⟩
theorem fr_all {bl : List (List UInt8)} {i : Nat} {r : Int} {f : Bool} (h : FrI bl i r f) (hi : bl.length ≤ i) : f = true ↔ freeB bl r := by
  have := h.e
  rwa [List.take_of_length_le hi] at this
theorem rd_le {xs : List UInt8} {b c : Int} (hb : b = ((readG 0 0 xs).2.1 : Int)) (hc : c = ((readG 0 0 xs).2.2 : Int)) (h : c = 0) : b ≤ xs.length := by
  rcases read_only xs with R | ⟨m, j, R, r1, r2, r3, r4⟩ <;> rw [R] at hb hc <;> dsimp only at hb hc <;> omega
theorem pad_0 {m : Int} {ps : List Plan} {z : List UInt8} {n : Nat} (h : z = blkB m ps) (hn : z.length = n) : z = blkB m ps ++ List.replicate (n - (blkB m ps).length) 0 := by
  rw [← hn, h, Nat.sub_self]; simp
theorem pad_step {m : Int} {ps : List Plan} {z z' : List UInt8} {n : Nat} (h : z = blkB m ps ++ List.replicate (n - (blkB m ps).length) 0) (hn : z.length = n) (hl : (blkB m ps).length ≤ n) (hz : z' = List.take n z ++ List.take 1 (List.drop 0 [UInt8.ofNat (Int.toNat 0)])) : z' = blkB m ps ++ List.replicate (n + 1 - (blkB m ps).length) 0 ∧ z'.length = n + 1 := by
  rw [← hn, List.take_length] at hz
  have e : z' = blkB m ps ++ List.replicate (n + 1 - (blkB m ps).length) 0 := by
    rw [hz, h, show n + 1 - (blkB m ps).length = n - (blkB m ps).length + 1 by omega, List.replicate_succ']
    simp
  exact ⟨e, by rw [e, List.length_append, List.length_replicate]; omega⟩
theorem pad_all {m : Int} {ps : List Plan} {z : List UInt8} {n N : Nat} (h : z = blkB m ps ++ List.replicate (n - (blkB m ps).length) 0) (hn : z.length = n) (hN : n = 48 * N) : List.take n (List.drop 0 z) = blkP m ps N := by
  rw [List.drop_zero, List.take_of_length_le (by omega), h, hN]; rfl
theorem rb_x {g a b : Int} {P G u v w : List UInt8} {i : Nat} (hG : G = putL g.toNat 8) (ha : a = 48 * (i : Int)) (hb : b = 48 * (i : Int) + 48) (hu : u = G) (hv : v = List.take G.length u ++ List.drop a.toNat (List.take b.toNat P)) (hw : w = List.take (G.length + (List.drop a.toNat (List.take b.toNat P)).length) v ++ G) : w = blk1 g P i ∧ w.length = G.length + (List.drop a.toNat (List.take b.toNat P)).length + G.length := by
  rw [hu, List.take_length] at hv
  have hv2 : List.take (G.length + (List.drop a.toNat (List.take b.toNat P)).length) v = v := List.take_of_length_le (by rw [hv, List.length_append]; omega)
  rw [hv2, hv] at hw
  refine ⟨?_, by rw [hw, List.length_append, List.length_append]⟩
  rw [hw, hG, List.drop_take, show a.toNat = 48 * i by omega, show b.toNat - 48 * i = 48 by omega, List.append_assoc]
  rfl
structure MxJ (g : Int) (bl : List (List UInt8)) (i : Nat) (us : List UInt64) (j : Nat) (x : Int) : Prop where
  u : us = [UInt64.ofNat (gV ((bl.getD i []).take 8)).toNat, UInt64.ofNat (gV ((bl.getD i []).drop 56)).toNat]
  x0 : j = 0 → x = mxL g (bl.take i)
  x1 : j = 1 → x = mxE (mxL g (bl.take i)) (gV ((bl.getD i []).take 8))
  x2 : j = 2 → x = mxB (mxL g (bl.take i)) (bl.getD i [])
theorem mj_0 {g : Int} {bl : List (List UInt8)} {i : Nat} {us : List UInt64} {a b x : Int} (h : MxI g bl i x) (ha : a = gV ((bl.getD i []).take 8)) (hb : b = gV ((bl.getD i []).drop 56)) (hu : us = [UInt64.ofNat a.toNat, UInt64.ofNat b.toNat]) : MxJ g bl i us 0 x :=
  ⟨by rw [hu, ha, hb], fun _ => h.e, fun c => absurd c (by decide), fun c => absurd c (by decide)⟩
theorem u64_back {a : Int} (h : 0 ≤ a ∧ a ≤ 18446744073709551615) : ((UInt64.ofNat a.toNat).toNat : Int) = a := by
  have : (UInt64.ofNat a.toNat).toNat = a.toNat := by
    rw [UInt64.toNat_ofNat']
    exact Nat.mod_eq_of_lt (by omega)
  rw [this]; omega
theorem mj_step {g : Int} {bl : List (List UInt8)} {i j : Nat} {us : List UInt64} {x y a : Int} (h : MxJ g bl i us j x) (hj : j < 2) (ha : a = ((us.getD j 0).toNat : Int)) (hy : y = mxE x a) : MxJ g bl i us (j + 1) y := by
  obtain ⟨hu, h0, h1, h2⟩ := h
  rcases (show j = 0 ∨ j = 1 by omega) with rfl | rfl
  · have : a = gV ((bl.getD i []).take 8) := by rw [ha, hu]; exact u64_back (gV_in _)
    exact ⟨hu, fun c => absurd c (by decide), fun _ => by rw [hy, h0 rfl, this], fun c => absurd c (by decide)⟩
  · have : a = gV ((bl.getD i []).drop 56) := by rw [ha, hu]; exact u64_back (gV_in _)
    exact ⟨hu, fun c => absurd c (by decide), fun c => absurd c (by decide), fun _ => by rw [hy, h1 rfl, this]; rfl⟩
theorem mj_end {g : Int} {bl : List (List UInt8)} {i j : Nat} {us : List UInt64} {x : Int} (h : MxJ g bl i us j x) (hi : i < bl.length) (hj : j = 2) : MxI g bl (i + 1) x := ⟨by rw [mxL_step hi, h.x2 hj]⟩
structure SnI (d : List UInt8) (i : Int) (j : Nat) (l : List (List UInt8)) : Prop where
  e : l = slotN d (slo d i) j
theorem sn_step {d : List UInt8} {i : Int} {l z : List (List UInt8)} {j q : Nat} {x : List UInt8} (h : SnI d i j l) (hi : l.length = j) (hx : x = blk d (slo d i + j)) (hq : x.length = q) (hz : z = List.take j l ++ List.take 1 (List.drop 0 [List.take q (List.drop 0 x)])) : SnI d i (j + 1) z ∧ z.length = j + 1 := by
  obtain ⟨a, b⟩ := slot_app h.e hi hx hq hz
  exact ⟨⟨a⟩, b⟩
structure Sl1 (d : List UInt8) (i : Int) (h : Bool) (g m : Int) (ps : List Plan) (bl : List (List UInt8)) : Prop where
  b : bl = slotL d i
  k : KF bl h g m ps
theorem sl_of {d : List UInt8} {i : Int} {h : Bool} {g m : Int} {ps : List Plan} {bl l : List (List UInt8)} {j n : Nat} (s : SnI d i j l) (hj : j = half d) (hn : l.length = n) (k : KF l h g m ps) (hb : bl = List.take n (List.drop 0 l)) : Sl1 d i h g m ps bl := by
  have e : bl = l := by rw [hb, List.drop_zero, ← hn, List.take_length]
  subst e
  exact ⟨by rw [s.e, hj]; rfl, k⟩
theorem sn_b64 {d : List UInt8} {i : Int} {l : List (List UInt8)} {j : Nat} (s : SnI d i j l) (hj : j = half d) (hd : D2 d) (hi : 0 ≤ i ∧ i ≤ 1) : B64 l := by
  have : l = slotL d i := by rw [s.e, hj]; rfl
  rw [this]; exact slot_b64 hd hi
structure Sl2 (d : List UInt8) (h0 : Bool) (g0 m0 : Int) (p0 : List Plan) (b0 : List (List UInt8)) (h1 : Bool) (g1 m1 : Int) (p1 : List Plan) (b1 : List (List UInt8)) : Prop where
  a : Sl1 d 0 h0 g0 m0 p0 b0
  b : Sl1 d 1 h1 g1 m1 p1 b1
theorem rd_is {d : List UInt8} {n : Int} (h : D2 d) (h0 : 0 ≤ n) (h1 : n < (d.length / 64 : Nat)) : rdO d n = blk d n := by
  have e : askE d n = 0 := by
    unfold askE
    rw [if_pos h.o, if_pos ⟨h0, h1⟩]
  unfold rdO
  rw [if_pos e]
theorem slo_0 (d : List UInt8) : slo d 0 = 0 := by unfold slo; omega
theorem slo_1 (d : List UInt8) : slo d 1 = (half d : Int) := by unfold slo; omega
theorem nf_of {bl : List (List UInt8)} {i : Nat} {r : Int} (hi : i < bl.length) (h : (((bl.getD i []).getD 56 0).toNat : Int) = r % 256) : ¬ freeB bl r := fun f => by
  refine f (bl.getD i []) ?_ h
  rw [List.getD_eq_getElem?_getD, List.getElem?_eq_getElem hi]
  exact List.getElem_mem hi
theorem Sl2.dk {d : List UInt8} {h0 h1 : Bool} {g0 m0 g1 m1 : Int} {p0 p1 : List Plan} {b0 b1 : List (List UInt8)} (s : Sl2 d h0 g0 m0 p0 b0 h1 g1 m1 p1 b1) : Dk d h0 g0 m0 p0 h1 g1 m1 p1 := by
  obtain ⟨⟨a1, a2⟩, ⟨b1, b2⟩⟩ := s
  subst a1; subst b1
  exact ⟨a2, b2⟩
theorem Sl2.cd0 {d : List UInt8} {h0 h1 : Bool} {g0 m0 g1 m1 c : Int} {p0 p1 : List Plan} {b0 b1 : List (List UInt8)} (s : Sl2 d h0 g0 m0 p0 b0 h1 g1 m1 p1 b1) (hc : c = cnt h0 g0 h1 g1) (h : c = 0) : Cd d 0 g0 m0 p0 :=
  ⟨_, _, _, _, _, _, _, _, s.dk, by rw [← h]; exact hc, fun _ => ⟨rfl, rfl, rfl⟩, fun c => absurd c (by decide), fun c => absurd c (by decide)⟩
theorem Sl2.cd1 {d : List UInt8} {h0 h1 : Bool} {g0 m0 g1 m1 c : Int} {p0 p1 : List Plan} {b0 b1 : List (List UInt8)} (s : Sl2 d h0 g0 m0 p0 b0 h1 g1 m1 p1 b1) (hc : c = cnt h0 g0 h1 g1) (h : c = 1) : Cd d 1 g1 m1 p1 :=
  ⟨_, _, _, _, _, _, _, _, s.dk, by rw [← h]; exact hc, fun c => absurd c (by decide), fun _ => ⟨rfl, rfl, rfl⟩, fun c => absurd c (by decide)⟩
theorem Sl2.cd2 {d : List UInt8} {h0 h1 : Bool} {g0 m0 g1 m1 c : Int} {p0 p1 : List Plan} {b0 b1 : List (List UInt8)} (s : Sl2 d h0 g0 m0 p0 b0 h1 g1 m1 p1 b1) (hc : c = cnt h0 g0 h1 g1) (h : c = -1) : Cd d (-1) 0 0 [] :=
  ⟨_, _, _, _, _, _, _, _, s.dk, by rw [← h]; exact hc, fun c => absurd c (by decide), fun c => absurd c (by decide), fun _ => ⟨rfl, rfl, rfl⟩⟩
def fmtE (n : Int) : Int := if 1 ≤ n ∧ n ≤ 64 then (if n = 1 then 190 else 0) else 180
def fmtO (n : Int) : List UInt8 := if fmtE n = 0 then List.replicate (64 * n.toNat) 0 else []
structure PQ (d : List UInt8) (m : Int) (l : List Plan) (r t : Int) : Prop where
  a : askD d = 0
  ml : m ≤ 3
  b : blkE 1 m l (half d : Int) = 0
  h : ∃ c g mm pp, Cd d c g mm pp ∧ t = (if c = 0 then 1 else 0) ∧ Nx g (slotL d t) r
def putsN (s : Int) (bl : List (List UInt8)) (i : Nat) : List Put := (List.range i).map fun j : Nat => ⟨s + j, bl.getD j []⟩
structure PtR (d : List UInt8) (m : Int) (l : List Plan) (e : Int) (ps : List Put) : Prop where
  a : askD d ≠ 0 → e = askD d ∧ ps = []
  b : askD d = 0 → 3 < m → e = 2 ∧ ps = []
  c : askD d = 0 → m ≤ 3 → blkE 1 m l (half d : Int) ≠ 0 → e = blkE 1 m l (half d : Int) ∧ ps = []
  d : askD d = 0 → m ≤ 3 → blkE 1 m l (half d : Int) = 0 → ∃ r t, PQ d m l r t ∧ ((4611686018427387904 ≤ r ∧ e = 190 ∧ ps = []) ∨ (r < 4611686018427387904 ∧ e = 0 ∧ ps = putsN (slo d t) (blkO r m l (half d : Int)) (half d)))
theorem PtR.in {d : List UInt8} {m : Int} {l : List Plan} {e : Int} {ps : List Put} (h : PtR d m l e ps) : (0 ≤ e ∧ e ≤ 190) ∧ ps.length ≤ 32 ∧ (e ≠ 0 → ps = []) := by
  by_cases a : askD d = 0
  · by_cases b : m ≤ 3
    · by_cases c : blkE 1 m l (half d : Int) = 0
      · obtain ⟨r, t, -, x | x⟩ := h.d a b c
        · obtain ⟨-, x, rfl⟩ := x; simp; omega
        · obtain ⟨-, x, rfl⟩ := x
          have := (askD_0 a).in
          simp [putsN]; omega
      · obtain ⟨x, rfl⟩ := h.c a b c
        have := blkE_in 1 m (half d : Int) l
        simp; omega
    · obtain ⟨x, rfl⟩ := h.b a (by omega); simp; omega
  · obtain ⟨x, rfl⟩ := h.a a
    have := askD_in d
    simp; omega
theorem blkE_gen {g m n : Int} {l : List Plan} (h : blkE 1 m l n = 0) (hg : 1 ≤ g ∧ g < 4611686018427387904) : blkE g m l n = 0 := by
  have := blkE_0.1 h
  exact blkE_0.2 ⟨this.1, hg, this.2.2⟩
theorem pt_a {d : List UInt8} {m e : Int} {l : List Plan} (he : e = askD d) (h : e ≠ 0) : PtR d m l e [] := ⟨fun _ => ⟨he, rfl⟩, fun c => absurd (he.trans c) h, fun c => absurd (he.trans c) h, fun c => absurd (he.trans c) h⟩
theorem pt_b {d : List UInt8} {m : Int} {l : List Plan} (ha : askD d = 0) (h : 3 < m) : PtR d m l 2 [] := ⟨fun c => absurd ha c, fun _ _ => ⟨rfl, rfl⟩, fun _ c => by omega, fun _ c => by omega⟩
theorem pt_c {d : List UInt8} {m e : Int} {l : List Plan} (ha : askD d = 0) (h : m ≤ 3) (he : e = blkE 1 m l (half d : Int)) (h0 : e ≠ 0) : PtR d m l e [] := ⟨fun c => absurd ha c, fun _ c => by omega, fun _ _ _ => ⟨he, rfl⟩, fun _ _ c => absurd (he.trans c) h0⟩
theorem pt_d {d : List UInt8} {m r t : Int} {l : List Plan} (q : PQ d m l r t) (h : 4611686018427387904 ≤ r) : PtR d m l 190 [] := ⟨fun c => absurd q.a c, fun _ c => by have := q.ml; omega, fun _ _ c => absurd q.b c, fun _ _ _ => ⟨r, t, q, .inl ⟨h, rfl, rfl⟩⟩⟩
theorem pt_e {d : List UInt8} {m r t : Int} {l : List Plan} {ps : List Put} (q : PQ d m l r t) (h : r < 4611686018427387904) (hp : ps = putsN (slo d t) (blkO r m l (half d : Int)) (half d)) : PtR d m l 0 ps := ⟨fun c => absurd q.a c, fun _ c => by have := q.ml; omega, fun _ _ c => absurd q.b c, fun _ _ _ => ⟨r, t, q, .inr ⟨h, rfl, hp⟩⟩⟩
structure PuI (s : Int) (bl : List (List UInt8)) (i : Nat) (ps : List Put) : Prop where
  e : ps = putsN s bl i
theorem pu_0 (s : Int) (bl : List (List UInt8)) : PuI s bl 0 [] := ⟨rfl⟩
theorem pu_step {s n : Int} {bl : List (List UInt8)} {i : Nat} {ps z : List Put} {x : List UInt8} (h : PuI s bl i ps) (hi : ps.length = i) (hn : n = s + i) (hx : x = bl.getD i []) (hz : z = List.take i ps ++ List.take 1 (List.drop 0 [⟨n, x⟩])) : PuI s bl (i + 1) z ∧ z.length = i + 1 := by
  rw [← hi, List.take_length] at hz
  have e : z = putsN s bl (i + 1) := by
    have hs : putsN s bl (i + 1) = putsN s bl i ++ [⟨s + (i : Int), bl.getD i []⟩] := by
      unfold putsN
      rw [List.range_succ, List.map_append]; rfl
    rw [hs, hz, ← h.e, hn, hx]; rfl
  exact ⟨⟨e⟩, by rw [e]; simp [putsN]⟩
theorem pq_of {d : List UInt8} {m r t c g mm : Int} {l pp : List Plan} {bl : List (List UInt8)} (ha : D2 d) (hm : m ≤ 3) (hb : blkE 1 m l (half d : Int) = 0) (k : Cd d c g mm pp) (ht : t = (if c = 0 then 1 else 0)) (hl : bl = slotL d t) (n : Nx g bl r) : PQ d m l r t := by
  subst hl
  exact ⟨ha.ask, hm, hb, _, _, _, _, k, ht, n⟩
theorem plan_eq {p q : Plan} (h1 : p.cycle = q.cycle) (h2 : p.offset = q.offset) (h3 : p.splits = q.splits) : p = q := by cases p; cases q; simp_all
theorem put_eq {p q : Put} (h1 : p.n = q.n) (h2 : p.data = q.data) : p = q := by cases p; cases q; simp_all
structure eqP {α : Type} (a b : List α) (i : Nat) : Prop where
  e : a.take i = b.take i
theorem eqp_step {α : Type} {a b : List α} {i : Nat} (d : α) (h : eqP a b i) (hi : i < a.length) (hm : i < b.length) (he : a.getD i d = b.getD i d) : eqP a b (i + 1) := ⟨by rw [take_step a d hi, take_step b d hm, h.e, he]⟩
theorem eqp_all {α : Type} {a b : List α} {i : Nat} (h : eqP a b i) (ha : a.length ≤ i) (hb : b.length ≤ i) : a = b := take_eq_all h.e ha hb
theorem eqp_0 {α : Type} (a b : List α) : eqP a b 0 := ⟨rfl⟩
structure BQ (d : List UInt8) (m : Int) (l : List Plan) (t : Int) (bl : List (List UInt8)) : Prop where
  h : ∃ r, PQ d m l r t ∧ r < 4611686018427387904 ∧ bl = blkO r m l (half d : Int)
theorem pt_f {d : List UInt8} {m t : Int} {l : List Plan} {ps : List Put} {bl : List (List UInt8)} {i : Nat} (q : BQ d m l t bl) (p : PuI (slo d t) bl i ps) (hi : i = half d) : PtR d m l 0 ps := by
  obtain ⟨r, a, b, c⟩ := q.h
  exact pt_e a b (by rw [p.e, c, hi])
theorem Sl1.no {d : List UInt8} {i j : Int} {h : Bool} {g m : Int} {ps : List Plan} {bl : List (List UInt8)} (s : Sl1 d i h g m ps bl) (hh : h = false) (hj : j = i) : KF (slotL d j) false 0 0 [] := by
  have k := s.k
  rw [s.b, hh, ← hj] at k
  obtain ⟨rfl, rfl, rfl, -⟩ := k.no rfl
  exact k
theorem Sl1.yes {d : List UInt8} {i j : Int} {h : Bool} {g m : Int} {ps : List Plan} {bl : List (List UInt8)} (s : Sl1 d i h g m ps bl) (hh : h = true) (hj : j = i) : KF (slotL d j) true g m ps := by
  have k := s.k
  rw [s.b, hh, ← hj] at k
  exact k
theorem fmt_180 {n : Int} (h : ¬ (1 ≤ n ∧ n ≤ 64)) : 180 = fmtE n := by unfold fmtE; rw [if_neg h]
theorem fmt_190 {n : Int} (h : 1 ≤ n ∧ n ≤ 64) (h1 : n = 1) : 190 = fmtE n := by unfold fmtE; rw [if_pos h, if_pos h1]
theorem fmt_0 {n : Int} (h : 1 ≤ n ∧ n ≤ 64) (h1 : ¬ n = 1) : fmtE n = 0 := by unfold fmtE; rw [if_pos h, if_neg h1]
end Go.St
