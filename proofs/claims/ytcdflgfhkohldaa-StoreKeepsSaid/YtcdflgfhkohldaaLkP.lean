import Derived.Test.YtcdflgfhkohldaaRwA
import Derived.Test.YtcdflgfhkohldaaLkA
namespace Go.Lk
open Go Go.Eng Go.Rw
set_option linter.unusedVariables false
set_option linter.unusedSimpArgs false
theorem smallF_len : ∀ (f n : Nat), (smallF f n).length ≤ f
  | 0, n => Nat.le_refl _
  | f + 1, n => by
    unfold smallF
    split
    · simp
    · have := smallF_len f (n / 128)
      simp only [List.length_cons]; omega
def smI (n : Int) : List UInt8 := smallL (n % 18446744073709551616).toNat
theorem smI_len (n : Int) : (smI n).length ≤ 10 := smallF_len 10 _
def sms (l : List Int) : List UInt8 := l.flatMap smI
theorem sms_app (a b : List Int) : sms (a ++ b) = sms a ++ sms b := by unfold sms; rw [List.flatMap_append]
theorem sms_one (n : Int) : sms [n] = smI n := by unfold sms; simp
theorem sms_cons (n : Int) (l : List Int) : sms (n :: l) = smI n ++ sms l := by unfold sms; rw [List.flatMap_cons]
theorem sms_len : ∀ (l : List Int), (sms l).length ≤ 10 * l.length
  | [] => Nat.le_refl _
  | n :: l => by
    have := sms_len l
    have := smI_len n
    rw [sms_cons, List.length_append, List.length_cons]; omega
theorem sms_le {l : List Int} {ys : List UInt8} {n k : Nat} (h : ys = sms l) (h2 : ys.length = n) (hl : l.length ≤ k) : n ≤ 10 * k := by
  have := sms_len l
  rw [← h2, h]; omega
theorem sms_step {l : List Int} {i : Nat} (h : i < l.length) : sms (l.take (i + 1)) = sms (l.take i) ++ smI (l.getD i 0) := by
  rw [take_step l 0 h, sms_app, sms_one]
def rdN (m : Int) (b : List UInt8) : Option (Int × List UInt8) := if (readG 0 0 b).2.2 = 0 ∧ ((readG 0 0 b).1 : Int) ≤ m then some (((readG 0 0 b).1 : Int), b.drop (readG 0 0 b).2.1) else none
def oneV (m : Int) (b : List UInt8) : Int := if (readG 0 0 b).2.2 = 0 ∧ ((readG 0 0 b).1 : Int) ≤ m then ((readG 0 0 b).1 : Int) else 0
def oneR (m : Int) (b : List UInt8) : List UInt8 := if (readG 0 0 b).2.2 = 0 ∧ ((readG 0 0 b).1 : Int) ≤ m then b.drop (readG 0 0 b).2.1 else b
def oneB (m : Int) (b : List UInt8) : Bool := if (readG 0 0 b).2.2 = 0 ∧ ((readG 0 0 b).1 : Int) ≤ m then false else true
theorem rdN_ok {m : Int} {b : List UInt8} (h : oneB m b = false) : rdN m b = some (oneV m b, oneR m b) := by
  unfold oneB at h
  split at h
  · rename_i c
    unfold rdN oneV oneR
    rw [if_pos c, if_pos c, if_pos c]
  · cases h
theorem rdN_no {m : Int} {b : List UInt8} (h : oneB m b = true) : rdN m b = none := by
  unfold oneB at h
  split at h
  · cases h
  · rename_i c
    unfold rdN
    rw [if_neg c]
theorem oneR_len (m : Int) (b : List UInt8) : (oneR m b).length ≤ b.length := by
  unfold oneR
  split
  · rw [List.length_drop]; omega
  · exact Nat.le_refl _
theorem oneV_in {m : Int} (b : List UInt8) (h : 0 ≤ m) : 0 ≤ oneV m b ∧ oneV m b ≤ m := by
  unfold oneV
  split
  · rename_i c; omega
  · omega
theorem rdN_sm {m v : Int} (hv : 0 ≤ v ∧ v ≤ m) (hm : m ≤ 9223372036854775807) (r : List UInt8) : rdN m (smI v ++ r) = some (v, r) := by
  have e : (v % 18446744073709551616).toNat = v.toNat := by omega
  have h : readG 0 0 (smI v ++ r) = (v.toNat, (smI v).length, 0) := by
    have := read_small 10 0 0 v.toNat r rfl (by omega) (by show v.toNat < 18446744073709551616; omega) (fun c => absurd c (by omega))
    unfold smI smallL
    rw [e, this]
    simp
  unfold rdN
  rw [h]
  dsimp only
  rw [if_pos ⟨rfl, by omega⟩, List.drop_left]
  congr 2
  omega
def rdK (m : Int) : Nat → List UInt8 → Option (List Int × List UInt8)
  | 0, b => some ([], b)
  | i + 1, b => match rdK m i b with
    | none => none
    | some (l, r) => match rdN m r with
      | none => none
      | some (v, r') => some (l ++ [v], r')
theorem rdK_none {m : Int} {b : List UInt8} {i : Nat} (h : rdK m i b = none) : ∀ (d : Nat), rdK m (i + d) b = none
  | 0 => h
  | d + 1 => by
    show (match rdK m (i + d) b with | none => none | some (l, r) => _) = none
    rw [rdK_none h d]
theorem rdK_sm {m : Int} (hm : m ≤ 9223372036854775807) {l : List Int} (hl : ∀ x, x ∈ l → 0 ≤ x ∧ x ≤ m) (r : List UInt8) : ∀ (i : Nat), i ≤ l.length → rdK m i (sms l ++ r) = some (l.take i, sms (l.drop i) ++ r)
  | 0, _ => by simp [rdK]
  | i + 1, h => by
    have hi : i < l.length := by omega
    have e : l.drop i = l.getD i 0 :: l.drop (i + 1) := by
      rw [List.drop_eq_getElem_cons hi, List.getD_eq_getElem?_getD, List.getElem?_eq_getElem hi]; rfl
    have hx : l.getD i 0 ∈ l := by
      rw [List.getD_eq_getElem?_getD, List.getElem?_eq_getElem hi]; exact List.getElem_mem hi
    rw [rdK, rdK_sm hm hl r i (by omega)]
    dsimp only
    rw [e, sms_cons, List.append_assoc, rdN_sm (hl _ hx) hm]
    dsimp only
    rw [take_step l 0 hi]
def rdA (m1 m2 m3 ml : Int) (b : List UInt8) : Option (Int × Int × Int × List Int) := match rdN m1 b with
  | none => none
  | some (s, b1) => match rdN m2 b1 with
    | none => none
    | some (c, b2) => match rdN m3 b2 with
      | none => none
      | some (o, b3) => match rdN 8 b3 with
        | none => none
        | some (n, b4) => match rdK ml n.toNat b4 with
          | none => none
          | some (l, _) => some (s, c, o, l)
theorem rdA_sm {m1 m2 m3 ml s c o : Int} {l : List Int} (h1 : 0 ≤ s ∧ s ≤ m1) (h2 : 0 ≤ c ∧ c ≤ m2) (h3 : 0 ≤ o ∧ o ≤ m3) (h4 : l.length ≤ 8) (hl : ∀ x, x ∈ l → 0 ≤ x ∧ x ≤ ml) (hm : m1 ≤ 9223372036854775807 ∧ m2 ≤ 9223372036854775807 ∧ m3 ≤ 9223372036854775807 ∧ ml ≤ 9223372036854775807) : rdA m1 m2 m3 ml (sms [s, c, o, (l.length : Int)] ++ sms l) = some (s, c, o, l) := by
  have e : sms [s, c, o, (l.length : Int)] ++ sms l = smI s ++ (smI c ++ (smI o ++ (smI l.length ++ (sms l ++ [])))) := by
    rw [sms_cons, sms_cons, sms_cons, sms_one, List.append_nil]; simp only [List.append_assoc]
  unfold rdA
  rw [e, rdN_sm h1 hm.1]; dsimp only
  rw [rdN_sm h2 hm.2.1]; dsimp only
  rw [rdN_sm h3 hm.2.2.1]; dsimp only
  rw [rdN_sm ⟨by omega, by omega⟩ (by decide)]; dsimp only
  rw [rdK_sm hm.2.2.2 hl [] _ (by omega), show ((l.length : Int)).toNat = l.length by omega]
  simp
structure CIn (m1 m2 m3 ml : Int) (b : List UInt8) (i : Nat) (bad : Bool) (r : List UInt8) (l : List Int) : Prop where
  ok : bad = false → oneB m1 b = false ∧ oneB m2 (oneR m1 b) = false ∧ oneB m3 (oneR m2 (oneR m1 b)) = false ∧ oneB 8 (oneR m3 (oneR m2 (oneR m1 b))) = false ∧ rdK ml i (oneR 8 (oneR m3 (oneR m2 (oneR m1 b)))) = some (l, r)
  no : bad = true → rdA m1 m2 m3 ml b = none
def nmb (m1 m2 m3 : Int) (b : List UInt8) : Int := oneV 8 (oneR m3 (oneR m2 (oneR m1 b)))
theorem rdA_of {m1 m2 m3 ml : Int} {b : List UInt8} (h1 : oneB m1 b = false) (h2 : oneB m2 (oneR m1 b) = false) (h3 : oneB m3 (oneR m2 (oneR m1 b)) = false) (h4 : oneB 8 (oneR m3 (oneR m2 (oneR m1 b))) = false) : rdA m1 m2 m3 ml b = match rdK ml (nmb m1 m2 m3 b).toNat (oneR 8 (oneR m3 (oneR m2 (oneR m1 b)))) with
    | none => none
    | some (l, _) => some (oneV m1 b, oneV m2 (oneR m1 b), oneV m3 (oneR m2 (oneR m1 b)), l) := by
  unfold rdA
  rw [rdN_ok h1]; dsimp only
  rw [rdN_ok h2]; dsimp only
  rw [rdN_ok h3]; dsimp only
  rw [rdN_ok h4]
  rfl
theorem cin_0 {m1 m2 m3 ml : Int} {b r : List UInt8} {bad : Bool} (hb : bad = (((oneB m1 b || oneB m2 (oneR m1 b)) || oneB m3 (oneR m2 (oneR m1 b))) || oneB 8 (oneR m3 (oneR m2 (oneR m1 b))))) (hr : r = oneR 8 (oneR m3 (oneR m2 (oneR m1 b)))) : CIn m1 m2 m3 ml b 0 bad r [] := by
  subst hr
  refine ⟨fun h => ?_, fun h => ?_⟩
  · rw [h] at hb
    have hb := hb.symm
    simp only [Bool.or_eq_false_iff] at hb
    exact ⟨hb.1.1.1, hb.1.1.2, hb.1.2, hb.2, rfl⟩
  · rw [h] at hb
    unfold rdA
    cases h1 : oneB m1 b with
    | true => rw [rdN_no h1]
    | false =>
      rw [rdN_ok h1]; dsimp only
      cases h2 : oneB m2 (oneR m1 b) with
      | true => rw [rdN_no h2]
      | false =>
        rw [rdN_ok h2]; dsimp only
        cases h3 : oneB m3 (oneR m2 (oneR m1 b)) with
        | true => rw [rdN_no h3]
        | false =>
          rw [rdN_ok h3]; dsimp only
          cases h4 : oneB 8 (oneR m3 (oneR m2 (oneR m1 b))) with
          | true => rw [rdN_no h4]
          | false => rw [h1, h2, h3, h4] at hb; cases hb
theorem cin_step {m1 m2 m3 ml : Int} {b r r' : List UInt8} {i j : Nat} {bad bad' : Bool} {l l' : List Int} (h : CIn m1 m2 m3 ml b i bad r l) (hi : (i : Int) < nmb m1 m2 m3 b) (hj : j = i + 1) (hb : bad' = (bad || oneB ml r)) (hr : r' = oneR ml r) (hl : l' = l ++ [oneV ml r]) : CIn m1 m2 m3 ml b j bad' r' l' := by
  subst hj; subst hr; subst hl
  refine ⟨fun c => ?_, fun c => ?_⟩
  · rw [c] at hb
    have hb := hb.symm
    simp only [Bool.or_eq_false_iff] at hb
    obtain ⟨h1, h2, h3, h4, h5⟩ := h.ok hb.1
    refine ⟨h1, h2, h3, h4, ?_⟩
    rw [rdK, h5]; dsimp only
    rw [rdN_ok hb.2]
  · cases d : bad with
    | true => exact h.no d
    | false =>
      rw [c, d] at hb
      obtain ⟨h1, h2, h3, h4, h5⟩ := h.ok d
      have e : rdK ml (i + 1) (oneR 8 (oneR m3 (oneR m2 (oneR m1 b)))) = none := by
        rw [rdK, h5]; dsimp only
        rw [rdN_no hb.symm]
      have := rdK_none e ((nmb m1 m2 m3 b).toNat - (i + 1))
      rw [show i + 1 + ((nmb m1 m2 m3 b).toNat - (i + 1)) = (nmb m1 m2 m3 b).toNat by omega] at this
      rw [rdA_of h1 h2 h3 h4, this]
theorem cin_end {m1 m2 m3 ml : Int} {b r : List UInt8} {i : Nat} {bad : Bool} {l : List Int} (h : CIn m1 m2 m3 ml b i bad r l) (hi : (i : Int) = nmb m1 m2 m3 b) (hb : bad = false) : rdA m1 m2 m3 ml b = some (oneV m1 b, oneV m2 (oneR m1 b), oneV m3 (oneR m2 (oneR m1 b)), l) := by
  obtain ⟨h1, h2, h3, h4, h5⟩ := h.ok hb
  rw [rdA_of h1 h2 h3 h4, ← hi, Int.toNat_natCast, h5]
structure planOk (cy of_ : Int) (l : List Int) : Prop where
  a : 1 ≤ cy ∧ cy ≤ 1048576
  b : 0 ≤ of_ ∧ of_ ≤ cy - 1
  c : 1 ≤ l.length ∧ l.length ≤ 8
  d : ∀ x, x ∈ l → 0 ≤ x ∧ x ≤ 1048576
noncomputable def wE (cy of_ : Int) (l : List Int) : Int := open Classical in if planOk cy of_ l then 0 else 170
noncomputable def cE (s cy of_ : Int) (l : List Int) : Int := if 0 ≤ s ∧ s ≤ 65535 then wE cy of_ l else 2
noncomputable def cO (s cy of_ : Int) (l : List Int) : List UInt8 := if cE s cy of_ l = 0 then sms [s, cy, of_, (l.length : Int)] ++ sms l else []
theorem wE_cases (cy of_ : Int) (l : List Int) : wE cy of_ l = 0 ∨ wE cy of_ l = 170 := by unfold wE; split <;> simp
theorem wE_0 {cy of_ : Int} {l : List Int} : wE cy of_ l = 0 ↔ planOk cy of_ l := by
  unfold wE
  split
  · rename_i c; exact ⟨fun _ => c, fun _ => rfl⟩
  · rename_i c; exact ⟨fun h => absurd h (by decide), fun h => absurd h c⟩
theorem wE_170 {cy of_ : Int} {l : List Int} (h : ¬ planOk cy of_ l) : wE cy of_ l = 170 := by unfold wE; rw [if_neg h]
def loadsOk (l : List Int) : Prop := ∀ x, x ∈ l → 0 ≤ x ∧ x ≤ 70368744177664
noncomputable def rE (s mo ti : Int) (l : List Int) : Int := open Classical in if ¬ (0 ≤ s ∧ s ≤ 65535) ∨ 3 < mo ∨ ti < 0 ∨ 1073741824 < ti then 2 else if 8 < l.length then 4 else if loadsOk l then 0 else 2
noncomputable def rO (s mo ti : Int) (l : List Int) : List UInt8 := if rE s mo ti l = 0 then sms [s, mo, ti, (l.length : Int)] ++ sms l else []
theorem rE_0 {s mo ti : Int} {l : List Int} : rE s mo ti l = 0 ↔ (0 ≤ s ∧ s ≤ 65535) ∧ mo ≤ 3 ∧ (0 ≤ ti ∧ ti ≤ 1073741824) ∧ l.length ≤ 8 ∧ loadsOk l := by
  unfold rE
  split
  · rename_i c; exact ⟨fun h => absurd h (by decide), fun h => by exfalso; omega⟩
  · split
    · exact ⟨fun h => absurd h (by decide), fun h => by exfalso; omega⟩
    · split
      · rename_i c1 c2 c3; exact ⟨fun _ => ⟨by omega, by omega, by omega, by omega, c3⟩, fun _ => rfl⟩
      · rename_i c; exact ⟨fun h => absurd h (by decide), fun h => absurd h.2.2.2.2 c⟩
theorem rE_2 {s mo ti : Int} {l : List Int} (h : ¬ (0 ≤ s ∧ s ≤ 65535) ∨ 3 < mo ∨ ti < 0 ∨ 1073741824 < ti) : rE s mo ti l = 2 := by unfold rE; rw [if_pos h]
theorem rE_4 {s mo ti : Int} {l : List Int} (h : ¬ (¬ (0 ≤ s ∧ s ≤ 65535) ∨ 3 < mo ∨ ti < 0 ∨ 1073741824 < ti)) (hl : 8 < l.length) : rE s mo ti l = 4 := by unfold rE; rw [if_neg h, if_pos hl]
theorem rE_l {s mo ti : Int} {l : List Int} (h : ¬ (¬ (0 ≤ s ∧ s ≤ 65535) ∨ 3 < mo ∨ ti < 0 ∨ 1073741824 < ti)) (hl : l.length ≤ 8) (hx : ¬ loadsOk l) : rE s mo ti l = 2 := by unfold rE; rw [if_neg h, if_neg (by omega), if_neg hx]
theorem cE_2 {s cy of_ : Int} {l : List Int} (h : ¬ (0 ≤ s ∧ s ≤ 65535)) : cE s cy of_ l = 2 := by unfold cE; rw [if_neg h]
theorem cE_w {s cy of_ : Int} {l : List Int} (h : 0 ≤ s ∧ s ≤ 65535) : cE s cy of_ l = wE cy of_ l := by unfold cE; rw [if_pos h]
noncomputable def ansC (b : List UInt8) : Option (Int × Int × Int × List Int) := match rdA 65535 1048576 1048576 1048576 b with
  | none => none
  | some (s, c, o, l) => if cE s c o l = 0 ∧ cO s c o l = b then some (s, c, o, l) else none
noncomputable def ansR (b : List UInt8) : Option (Int × Int × Int × List Int) := match rdA 65535 3 1073741824 70368744177664 b with
  | none => none
  | some (s, c, o, l) => if rE s c o l = 0 ∧ rO s c o l = b then some (s, c, o, l) else none
theorem ansC_back {s cy of_ : Int} {l : List Int} (h : cE s cy of_ l = 0) : ansC (cO s cy of_ l) = some (s, cy, of_, l) ∧ (cO s cy of_ l).length ≤ 512 := by
  have h0 := h
  unfold cE at h
  split at h
  · rename_i c
    obtain ⟨p1, p2, p3, p4⟩ := wE_0.1 h
    have e : cO s cy of_ l = sms [s, cy, of_, (l.length : Int)] ++ sms l := by unfold cO; rw [if_pos h0]
    have r := rdA_sm (m1 := 65535) (m2 := 1048576) (m3 := 1048576) (ml := 1048576) c (c := cy) (o := of_) ⟨by omega, by omega⟩ ⟨by omega, by omega⟩ p3.2 p4 (by decide)
    refine ⟨?_, ?_⟩
    · unfold ansC
      rw [← e] at r
      rw [r]
      dsimp only
      rw [if_pos ⟨h0, rfl⟩]
    · have a1 := sms_len [s, cy, of_, (l.length : Int)]
      have a2 := sms_len l
      rw [e, List.length_append]
      simp only [List.length_cons, List.length_nil] at a1
      omega
  · exact absurd h (by decide)
theorem ansR_back {s mo ti : Int} {l : List Int} (hm : 0 ≤ mo) (h : rE s mo ti l = 0) : ansR (rO s mo ti l) = some (s, mo, ti, l) ∧ (rO s mo ti l).length ≤ 512 := by
  obtain ⟨p1, p2, p3, p4, p5⟩ := rE_0.1 h
  have e : rO s mo ti l = sms [s, mo, ti, (l.length : Int)] ++ sms l := by unfold rO; rw [if_pos h]
  have r := rdA_sm (m1 := 65535) (m2 := 3) (m3 := 1073741824) (ml := 70368744177664) p1 (c := mo) (o := ti) ⟨hm, p2⟩ p3 p4 p5 (by decide)
  refine ⟨?_, ?_⟩
  · unfold ansR
    rw [← e] at r
    rw [r]
    dsimp only
    rw [if_pos ⟨h, rfl⟩]
  · have a1 := sms_len [s, mo, ti, (l.length : Int)]
    have a2 := sms_len l
    rw [e, List.length_append]
    simp only [List.length_cons, List.length_nil] at a1
    omega
theorem ansC_of {b : List UInt8} {s c o : Int} {l : List Int} (h : ansC b = some (s, c, o, l)) : cE s c o l = 0 ∧ cO s c o l = b := by
  unfold ansC at h
  split at h
  · cases h
  · split at h
    · rename_i d
      simp only [Option.some.injEq, Prod.mk.injEq] at h
      obtain ⟨rfl, rfl, rfl, rfl⟩ := h
      exact d
    · cases h
theorem ansR_of {b : List UInt8} {s c o : Int} {l : List Int} (h : ansR b = some (s, c, o, l)) : rE s c o l = 0 ∧ rO s c o l = b := by
  unfold ansR at h
  split at h
  · cases h
  · split at h
    · rename_i d
      simp only [Option.some.injEq, Prod.mk.injEq] at h
      obtain ⟨rfl, rfl, rfl, rfl⟩ := h
      exact d
    · cases h
end Go.Lk
