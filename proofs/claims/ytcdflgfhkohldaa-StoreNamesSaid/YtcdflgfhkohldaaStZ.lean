import Derived.Test.YtcdflgfhkohldaaStP
namespace Go.St
open Go Go.Eng Go.Rw Go.Lk Go.Bk
set_option linter.unusedVariables false
set_option linter.unusedSimpArgs false
/-! What is left of writes that are broken off. -/
/-- New blocks' first bytes over old ones'. -/
def mixL (bl ol : List (List UInt8)) (M : Nat → Nat) (h : Nat) : List (List UInt8) := (List.range h).map fun i : Nat => (bl.getD i []).take (M i) ++ (ol.getD i []).drop (M i)
theorem mix_len (bl ol : List (List UInt8)) (M : Nat → Nat) (h : Nat) : (mixL bl ol M h).length = h := by simp [mixL]
theorem mix_get {bl ol : List (List UInt8)} {M : Nat → Nat} {h i : Nat} (hi : i < h) : (mixL bl ol M h).getD i [] = (bl.getD i []).take (M i) ++ (ol.getD i []).drop (M i) := by
  unfold mixL
  rw [List.getD_eq_getElem?_getD, List.getElem?_map, List.getElem?_range hi]; rfl
theorem list_ext {a b : List (List UInt8)} {h : Nat} (ha : a.length = h) (hb : b.length = h) (e : ∀ i, i < h → a.getD i [] = b.getD i []) : a = b := by
  apply List.ext_getElem (by omega)
  intro i h1 h2
  have := e i (by omega)
  rwa [List.getD_eq_getElem?_getD, List.getD_eq_getElem?_getD, List.getElem?_eq_getElem h1, List.getElem?_eq_getElem h2] at this
theorem mix_byte {a b : List UInt8} {k j : Nat} (ha : a.length = 64) (hk : k ≤ 64) : (a.take k ++ b.drop k).getD j 0 = if j < k then a.getD j 0 else b.getD j 0 := by
  have l : (a.take k).length = k := by rw [List.length_take]; omega
  rw [List.getD_eq_getElem?_getD, List.getD_eq_getElem?_getD, List.getD_eq_getElem?_getD]
  by_cases c : j < k
  · rw [if_pos c, List.getElem?_append_left (by omega), List.getElem?_take, if_pos c]
  · rw [if_neg c, List.getElem?_append_right (by omega), l, List.getElem?_drop, show k + (j - k) = j by omega]
theorem put_0 (n : Nat) : (putL n 8).getD 0 0 = UInt8.ofNat n := by simp [putL, List.range_succ]
theorem blk1_0 (g : Int) (b : List UInt8) (i : Nat) : (blk1 g b i).getD 0 0 = UInt8.ofNat g.toNat := by
  unfold blk1
  rw [List.getD_eq_getElem?_getD, List.getElem?_append_left (by rw [putL_len]; omega), ← List.getD_eq_getElem?_getD, put_0]
theorem blk1_56 {g : Int} {b : List UInt8} {i : Nat} (h : 48 * i + 48 ≤ b.length) : (blk1 g b i).getD 56 0 = UInt8.ofNat g.toNat := by
  have l : ((b.drop (48 * i)).take 48).length = 48 := by rw [List.length_take, List.length_drop]; omega
  unfold blk1
  rw [List.getD_eq_getElem?_getD, List.getElem?_append_right (by rw [putL_len]; omega), putL_len, List.getElem?_append_right (by omega), l, ← List.getD_eq_getElem?_getD, put_0]
theorem low_eq {r : Int} (h : 0 ≤ r) : ((UInt8.ofNat r.toNat).toNat : Int) = r % 256 := by
  have : (UInt8.ofNat r.toNat).toNat = r.toNat % 256 := by simp
  rw [this]; omega
theorem free_get {ol : List (List UInt8)} {r : Int} (h : freeB ol r) {i : Nat} (hi : i < ol.length) (h0 : 0 ≤ r) : (ol.getD i []).getD 56 0 ≠ UInt8.ofNat r.toNat := fun e => by
  have hm : ol.getD i [] ∈ ol := by
    rw [List.getD_eq_getElem?_getD, List.getElem?_eq_getElem hi]; exact List.getElem_mem hi
  exact h _ hm (by rw [e, low_eq h0])
theorem take8 (g : Int) (b : List UInt8) (i : Nat) : (blk1 g b i).take 8 = putL g.toNat 8 := by
  unfold blk1
  rw [List.take_append_of_le_length (by rw [putL_len]; omega), List.take_of_length_le (by rw [putL_len]; omega)]
theorem putL_inj {a b : Int} (ha : 1 ≤ a ∧ a < 4611686018427387904) (hb : 1 ≤ b ∧ b < 4611686018427387904) (h : putL a.toNat 8 = putL b.toNat 8) : a = b := by
  rw [← gV_put ha, h, gV_put hb]
theorem take_mix {a b : List UInt8} {k n : Nat} (ha : a.length = 64) (hk : k ≤ 64) (hn : n ≤ k) : (a.take k ++ b.drop k).take n = a.take n := by
  have l : (a.take k).length = k := by rw [List.length_take]; omega
  rw [List.take_append_of_le_length (by omega), List.take_take, Nat.min_eq_left hn]
theorem many_at (w t : Int) (i : Nat) : manyB w t i = if (i : Int) < w then 64 else if (i : Int) = w then t.toNat else 0 := rfl
theorem blk1_eq {g : Int} {P Q : List UInt8} {i : Nat} {x : List UInt8} (hP : 48 * i + 48 ≤ P.length) (hQ : 48 * i + 48 ≤ Q.length) (h : (blk1 g P i).take 57 = (blk1 g Q i).take 57) : blk1 g P i = blk1 g Q i := by
  have lp : ((P.drop (48 * i)).take 48).length = 48 := by rw [List.length_take, List.length_drop]; omega
  have lq : ((Q.drop (48 * i)).take 48).length = 48 := by rw [List.length_take, List.length_drop]; omega
  have lg : (putL g.toNat 8).length = 8 := putL_len _ _
  have e : (P.drop (48 * i)).take 48 = (Q.drop (48 * i)).take 48 := by
    have h2 := congrArg (fun l => (l.drop 8).take 48) h
    unfold blk1 at h2
    rw [List.drop_take, List.drop_take, List.drop_append_of_le_length (by omega), List.drop_append_of_le_length (by omega), List.drop_of_length_le (by omega), List.nil_append, List.nil_append, List.take_take, List.take_take, show min 48 (57 - 8) = 48 from rfl, List.take_append_of_le_length (by omega), List.take_append_of_le_length (by omega), List.take_take, List.take_take, Nat.min_self] at h2
    exact h2
  unfold blk1
  rw [e]
theorem mix_main {r g m : Int} {P : List UInt8} {ol : List (List UInt8)} {h : Nat} {w t : Int} {p : List Plan} (hP : P.length = 48 * h) (hl : ol.length = h) (hf : freeB ol r) (h1 : 1 ≤ h) (hr : 1 ≤ r ∧ r < 4611686018427387904) (ht : 0 ≤ t ∧ t ≤ 64) (hw : 0 ≤ w ∧ w ≤ h)
    (K : KeptIs (mixL (blks r P h) ol (manyB w t) h) g m p) : (mixL (blks r P h) ol (manyB w t) h = blks r P h ∧ (w = h ∨ (w = (h : Int) - 1 ∧ 0 < t))) ∨ (w = 0 ∧ t = 0) := by
  obtain ⟨⟨e1, e2⟩, e3, e4, e5, e6⟩ := blkE_0.1 K.e
  have ho := K.o
  rw [show (mixL (blks r P h) ol (manyB w t) h).length = h from mix_len _ _ _ _] at e1 e2 e6 ho
  have hbe : blkE g m p (h : Int) = 0 := by have := K.e; rwa [mix_len] at this
  unfold blkO at ho
  rw [if_pos hbe, show ((h : Int)).toNat = h by omega] at ho
  have hQ : (blkP m p h).length = 48 * h := blkP_len (by omega)
  have at_ : ∀ i, i < h → blk1 g (blkP m p h) i = (blk1 r P i).take (manyB w t i) ++ (ol.getD i []).drop (manyB w t i) := fun i hi => by
    have := congrArg (fun l => l.getD i []) ho
    rw [blks_get hi, mix_get hi, blks_get hi] at this
    exact this
  have nl : ∀ i, i < h → (blk1 r P i).length = 64 := fun i hi => blk1_len (by omega)
  have mk : ∀ i, manyB w t i ≤ 64 := many_le ht.2
  by_cases z : w = 0 ∧ t = 0
  · exact .inr z
  refine .inl ?_
  -- the first block has the new number's first byte
  have m0 : 1 ≤ manyB w t 0 := by
    rw [many_at]
    split
    · omega
    · split <;> omega
  have b0 : UInt8.ofNat g.toNat = UInt8.ofNat r.toNat := by
    have := congrArg (fun l => l.getD 0 0) (at_ 0 (by omega))
    rw [blk1_0, mix_byte (nl 0 (by omega)) (mk 0), if_pos (by omega), blk1_0] at this
    exact this
  -- so has the last one, at its end
  have ml : 57 ≤ manyB w t (h - 1) := by
    refine Nat.lt_of_not_le fun c => ?_
    have := congrArg (fun l => l.getD 56 0) (at_ (h - 1) (by omega))
    rw [blk1_56 (by omega), mix_byte (nl _ (by omega)) (mk _), if_neg (by omega), b0] at this
    exact free_get hf (i := h - 1) (by omega) (by omega) this.symm
  have hwt : w = h ∨ (w = (h : Int) - 1 ∧ 57 ≤ t) := by
    rw [many_at] at ml
    split at ml
    · omega
    · split at ml <;> omega
  have m0' : 57 ≤ manyB w t 0 := by
    rw [many_at]
    split
    · omega
    · split <;> omega
  have hg : g = r := putL_inj e3 hr (by
    have := congrArg (fun l => l.take 8) (at_ 0 (by omega))
    rw [take8, take_mix (nl 0 (by omega)) (mk 0) (by omega), take8] at this
    exact this)
  subst hg
  refine ⟨?_, by omega⟩
  refine list_ext (h := h) (mix_len _ _ _ _) (blks_len _ _ _) fun i hi => ?_
  rw [mix_get hi, blks_get hi, ← at_ i hi]
  have mi : 57 ≤ manyB w t i := by
    rw [many_at]
    split
    · omega
    · split <;> omega
  refine blk1_eq (x := []) (by omega) (by omega) ?_
  rw [at_ i hi, take_mix (nl i hi) (mk i) mi]
theorem mix_all {bl ol : List (List UInt8)} {h : Nat} (hb : bl.length = h) (h64 : ∀ i, i < h → (bl.getD i []).length = 64) (ho : ∀ i, i < h → (ol.getD i []).length = 64) : mixL bl ol (manyB h 0) h = bl := by
  refine list_ext (h := h) (mix_len _ _ _ _) hb fun i hi => ?_
  rw [mix_get hi, many_at, if_pos (by omega), List.take_of_length_le (by have := h64 i hi; omega), List.drop_of_length_le (by have := ho i hi; omega), List.append_nil]
theorem mix_none {bl ol : List (List UInt8)} {h : Nat} (ho : ol.length = h) : mixL bl ol (manyB 0 0) h = ol := by
  refine list_ext (h := h) (mix_len _ _ _ _) ho fun i hi => ?_
  rw [mix_get hi]
  have : manyB 0 0 i = 0 := by
    rw [many_at, if_neg (by omega)]
    split <;> rfl
  rw [this]; simp
/-! A device's slots behind such writes. -/
theorem doF_other {d : List UInt8} {l : List Put} {w t k : Int} (hd : dOk d.length) (hl : ∀ p, p ∈ l → PutOk d.length p) (ht : t ≤ 64) (hk : 0 ≤ k) (hn : ∀ j, j < l.length → (l.getD j (dflt 9)).n ≠ k) : ∀ i, i ≤ l.length → blk (doF d l w t i) k = blk d k
  | 0, _ => rfl
  | i + 1, hi => by
    have p := hl _ (get_mem (l := l) (i := i) (by omega))
    have R := room hd.2.2 p.1.1 p.1.2
    have m := many_le (w := w) ht i
    rw [doF_step, blk_other (by rw [doF_len hd hl ht i (by omega)]; omega) (by rw [p.2]; exact m) m p.1.1 hk (hn i (by omega)), doF_other hd hl ht hk hn i (by omega)]
theorem puts_len (s : Int) (bl : List (List UInt8)) (h : Nat) : (putsN s bl h).length = h := by simp [putsN]
theorem puts_get {s : Int} {bl : List (List UInt8)} {h i : Nat} (hi : i < h) : (putsN s bl h).getD i (dflt 9) = ⟨s + i, bl.getD i []⟩ := by
  unfold putsN
  rw [List.getD_eq_getElem?_getD, List.getElem?_map, List.getElem?_range hi]; rfl
theorem slotL_get {d : List UInt8} {i : Int} {n : Nat} (h : n < half d) : (slotL d i).getD n [] = blk d (i * (half d : Int) + n) := by
  unfold slotL
  rw [List.getD_eq_getElem?_getD, List.getElem?_map, List.getElem?_range h]; rfl
/-- A put that may be, and its blocks. -/
structure PT (d : List UInt8) (r t : Int) (bl : List (List UInt8)) (P : List UInt8) : Prop where
  h2 : D2 d
  t01 : t = 0 ∨ t = 1
  b : bl = blks r P (half d)
  p : P.length = 48 * half d
  rb : 1 ≤ r ∧ r < 4611686018427387904
  f : freeB (slotL d t) r
theorem PT.bl64 {d : List UInt8} {r t : Int} {bl : List (List UInt8)} {P : List UInt8} (q : PT d r t bl P) {i : Nat} (hi : i < half d) : (bl.getD i []).length = 64 := by
  rw [q.b, blks_get hi]; exact blk1_len (by have := q.p; omega)
theorem PT.ok {d : List UInt8} {r t : Int} {bl : List (List UInt8)} {P : List UInt8} (q : PT d r t bl P) : ∀ p, p ∈ putsN (slo d t) bl (half d) → PutOk d.length p := fun p hp => by
  obtain ⟨i, hi, rfl⟩ := List.getElem_of_mem hp
  rw [puts_len] at hi
  have := puts_get (s := slo d t) (bl := bl) hi
  rw [List.getD_eq_getElem?_getD, List.getElem?_eq_getElem (by rw [puts_len]; exact hi)] at this
  rw [show (putsN (slo d t) bl (half d))[i] = _ from this]
  have s := slo_in q.h2 (i := t) (by have := q.t01; omega)
  have di := q.h2.in
  exact ⟨⟨by dsimp only; omega, by dsimp only; omega⟩, q.bl64 hi⟩
theorem PT.apart {d : List UInt8} {r t : Int} {bl : List (List UInt8)} {P : List UInt8} (q : PT d r t bl P) : Apart (putsN (slo d t) bl (half d)) (putsN (slo d t) bl (half d)).length := ⟨fun i j hj hi => by
  rw [puts_len] at hi
  rw [puts_get (by omega), puts_get (by omega)]
  dsimp only
  omega⟩
theorem PT.doE {d : List UInt8} {r t : Int} {bl : List (List UInt8)} {P : List UInt8} (q : PT d r t bl P) {w tn : Int} (hw : 0 ≤ w ∧ w ≤ (half d : Int)) (ht : 0 ≤ tn ∧ tn ≤ 64) : doE d (putsN (slo d t) bl (half d)) w tn = 0 :=
  doE_0.2 ⟨q.h2.o, q.ok, by rw [puts_len]; exact hw, ht⟩
theorem PT.slots {d : List UInt8} {r t : Int} {bl : List (List UInt8)} {P x : List UInt8} (q : PT d r t bl P) {w tn : Int} (hw : 0 ≤ w ∧ w ≤ (half d : Int)) (ht : 0 ≤ tn ∧ tn ≤ 64) (hx : x = doO d (putsN (slo d t) bl (half d)) w tn) :
    x.length = d.length ∧ slotL x t = mixL bl (slotL d t) (manyB w tn) (half d) ∧ slotL x (1 - t) = slotL d (1 - t) := by
  have E := q.doE hw ht
  have L : x.length = d.length := by rw [hx]; exact doO_eq E
  have hh : half x = half d := by unfold half; rw [L]
  have hx2 : x = doF d (putsN (slo d t) bl (half d)) w tn (putsN (slo d t) bl (half d)).length := by
    rw [hx]; unfold doO; rw [if_pos E]
  have di := q.h2.in
  refine ⟨L, ?_, ?_⟩
  · refine list_ext (h := half d) (by rw [slotL_len, hh]) (mix_len _ _ _ _) fun i hi => ?_
    rw [slotL_get (by omega), mix_get hi, slotL_get hi, hh, hx2]
    have T := torn (w := w) q.h2.o q.ok ht.2 q.apart (i := i) (by rw [puts_len]; exact hi)
    rw [puts_get hi] at T
    exact T
  · refine list_ext (h := half d) (by rw [slotL_len, hh]) (by rw [slotL_len]) fun i hi => ?_
    rw [slotL_get (by omega), slotL_get hi, hh, hx2]
    refine doF_other q.h2.o q.ok ht.2 ?_ (fun j hj => ?_) _ (Nat.le_refl _)
    · rcases q.t01 with rfl | rfl <;> omega
    · rw [puts_len] at hj
      rw [puts_get hj]
      dsimp only
      unfold slo
      rcases q.t01 with rfl | rfl <;> omega
theorem PQ.pt {d : List UInt8} {m r t : Int} {l : List Plan} (q : PQ d m l r t) (hr : r < 4611686018427387904) : PT d r t (blkO r m l (half d : Int)) (blkP m l (half d)) := by
  obtain ⟨c, g, mm, pp, k, ht, n⟩ := q.h
  have h2 := askD_0 q.a
  have di := h2.in
  have ki := k.in
  have mi := mxL_in (bl := slotL d t) (g := g) ki.2.1
  have lo := n.lo
  have hg : blkE r m l (half d : Int) = 0 := blkE_gen q.b (by omega)
  have b0 := blkE_0.1 hg
  exact ⟨h2, by rw [ht]; split <;> simp, by unfold blkO; rw [if_pos hg]; rfl, blkP_len (by omega), by omega, n.fr⟩
theorem PQ.kept {d : List UInt8} {m r t : Int} {l : List Plan} (q : PQ d m l r t) (hr : r < 4611686018427387904) (hm : 0 ≤ m) : KF (blkO r m l (half d : Int)) true r m l := by
  have p := q.pt hr
  have hg : blkE r m l (half d : Int) = 0 := blkE_gen q.b p.rb
  have hl := blkO_len hg
  have e : (blkO r m l (half d : Int)).length = half d := by omega
  exact kf_some ⟨hm, by rw [e]; exact hg, by rw [e]⟩
theorem KF.of_eq {a b : List (List UInt8)} {h : Bool} {g m : Int} {ps : List Plan} (k : KF a h g m ps) (e : b = a) : KF b h g m ps := by rw [e]; exact k
/-- The slots that another device has: they answer the same. -/
theorem RdR.congr {a b : List UInt8} {e g m : Int} {ps : List Plan} (h : RdR a e g m ps) (hl : b.length = a.length) (h0 : slotL b 0 = slotL a 0) (h1 : slotL b 1 = slotL a 1) : RdR b e g m ps := by
  have ha : askD b = askD a := by unfold askD; rw [hl]
  refine ⟨fun c => by rw [ha] at c ⊢; exact h.a c, fun c => ?_⟩
  rw [ha] at c
  obtain ⟨x, k, y⟩ := h.b c
  refine ⟨x, ?_, y⟩
  obtain ⟨a0, a1, a2, a3, a4, a5, a6, a7, k1, k2⟩ := k.h
  exact ⟨a0, a1, a2, a3, a4, a5, a6, a7, ⟨by rw [h0]; exact k1.a, by rw [h1]; exact k1.b⟩, k2⟩
theorem RdR.uniq {d : List UInt8} {e g m e' g' m' : Int} {ps ps' : List Plan} (h : RdR d e g m ps) (h' : RdR d e' g' m' ps') : e = e' ∧ g = g' ∧ m = m' ∧ ps = ps' := by
  by_cases c : askD d = 0
  · obtain ⟨x, k, y⟩ := h.b c
    obtain ⟨x', k', y'⟩ := h'.b c
    obtain ⟨rfl, rfl, rfl, rfl⟩ := k.uniq k'
    exact ⟨by omega, rfl, rfl, rfl⟩
  · obtain ⟨rfl, rfl, rfl, rfl⟩ := h.a c
    obtain ⟨rfl, rfl, rfl, rfl⟩ := h'.a c
    exact ⟨rfl, rfl, rfl, rfl⟩
/-- Two devices keep the same. -/
def SameD (a b : List UInt8) : Prop := ∃ e g m ps, RdR a e g m ps ∧ RdR b e g m ps
theorem SameD.congr {a d : List UInt8} {e g m : Int} {ps : List Plan} (ha : RdR d e g m ps) (hl : a.length = d.length) (h0 : slotL a 0 = slotL d 0) (h1 : slotL a 1 = slotL d 1) : SameD a d := ⟨e, g, m, ps, ha.congr hl h0 h1, ha⟩
theorem kf_ex (bl : List (List UInt8)) : ∃ h g m ps, KF bl h g m ps := by
  rcases Classical.em (∃ g m ps, KeptIs bl g m ps) with ⟨g, m, ps, k⟩ | n
  · exact ⟨true, g, m, ps, kf_some k⟩
  · exact ⟨false, 0, 0, [], kf_none fun g m ps k => n ⟨g, m, ps, k⟩⟩
theorem cd_ex (d : List UInt8) : ∃ c g m ps, Cd d c g m ps := by
  obtain ⟨h0, g0, m0, p0, a⟩ := kf_ex (slotL d 0)
  obtain ⟨h1, g1, m1, p1, b⟩ := kf_ex (slotL d 1)
  have ic := cnt_in h0 g0 h1 g1
  rcases (show cnt h0 g0 h1 g1 = 0 ∨ cnt h0 g0 h1 g1 = 1 ∨ cnt h0 g0 h1 g1 = -1 by omega) with x | x | x
  · exact ⟨0, g0, m0, p0, ⟨_, _, _, _, _, _, _, _, ⟨a, b⟩, x.symm, fun _ => ⟨rfl, rfl, rfl⟩, fun c => absurd c (by decide), fun c => absurd c (by decide)⟩⟩
  · exact ⟨1, g1, m1, p1, ⟨_, _, _, _, _, _, _, _, ⟨a, b⟩, x.symm, fun c => absurd c (by decide), fun _ => ⟨rfl, rfl, rfl⟩, fun c => absurd c (by decide)⟩⟩
  · exact ⟨-1, 0, 0, [], ⟨_, _, _, _, _, _, _, _, ⟨a, b⟩, x.symm, fun c => absurd c (by decide), fun c => absurd c (by decide), fun _ => ⟨rfl, rfl, rfl⟩⟩⟩
theorem rd_of {d : List UInt8} {c g m : Int} {ps : List Plan} (h : askD d = 0) (k : Cd d c g m ps) : RdR d (if c = -1 then 190 else 0) g m ps :=
  ⟨fun x => absurd h x, fun _ => ⟨c, k, by have := k.in; split <;> omega⟩⟩
theorem rd_ex (d : List UInt8) : ∃ e g m ps, RdR d e g m ps := by
  by_cases h : askD d = 0
  · obtain ⟨c, g, m, ps, k⟩ := cd_ex d
    exact ⟨_, _, _, _, rd_of h k⟩
  · exact ⟨askD d, 0, 0, [], ⟨fun _ => ⟨rfl, rfl, rfl, rfl⟩, fun c => absurd c h⟩⟩
theorem SameD.slots {a b : List UInt8} (hl : a.length = b.length) (h0 : slotL a 0 = slotL b 0) (h1 : slotL a 1 = slotL b 1) : SameD a b := by
  obtain ⟨e, g, m, ps, h⟩ := rd_ex b
  exact SameD.congr h hl h0 h1
theorem SameD.iff {a b : List UInt8} {e g m e' g' m' : Int} {ps ps' : List Plan} (h : RdR a e g m ps) (h' : RdR b e' g' m' ps') : SameD a b ↔ e = e' ∧ g = g' ∧ m = m' ∧ ps = ps' := by
  constructor
  · rintro ⟨e2, g2, m2, ps2, k, k'⟩
    obtain ⟨rfl, rfl, rfl, rfl⟩ := h.uniq k
    obtain ⟨rfl, rfl, rfl, rfl⟩ := h'.uniq k'
    exact ⟨rfl, rfl, rfl, rfl⟩
  · rintro ⟨rfl, rfl, rfl, rfl⟩
    exact ⟨_, _, _, _, h, h'⟩
theorem cnt_0 {h0 h1 : Bool} {g0 g1 : Int} (h : 0 = cnt h0 g0 h1 g1) : h0 = true := by
  unfold cnt at h
  split at h
  · rename_i c; exact c.1
  · split at h <;> cases h
theorem cnt_1 {h0 h1 : Bool} {g0 g1 : Int} (h : 1 = cnt h0 g0 h1 g1) : h1 = true ∧ ¬ (h0 = true ∧ ¬ (h1 = true ∧ g0 < g1)) := by
  unfold cnt at h
  split at h
  · cases h
  · rename_i c
    split at h
    · rename_i c2; exact ⟨c2, c⟩
    · cases h
theorem cnt_2 {h0 h1 : Bool} {g0 g1 : Int} (h : -1 = cnt h0 g0 h1 g1) : h0 = false ∧ h1 = false := by
  unfold cnt at h
  split at h
  · cases h
  · rename_i c
    split at h
    · cases h
    · rename_i c2
      have e : h1 = false := by cases h1 <;> simp_all
      subst e
      cases h0
      · exact ⟨rfl, rfl⟩
      · exact absurd ⟨rfl, by simp⟩ c
theorem cd_none {d x : List UInt8} {c g mm t : Int} {pp : List Plan} (k : Cd d c g mm pp) (ht : t = if c = 0 then 1 else 0) (hk : KF (slotL x t) false 0 0 []) (ho : slotL x (1 - t) = slotL d (1 - t)) : Cd x c g mm pp := by
  have ki := k.in
  obtain ⟨h0, g0, m0, p0, h1, g1, m1, p1, kk, hc, a, b, e⟩ := k.h
  rcases (show c = 0 ∨ c = 1 ∨ c = -1 by omega) with y | y | y
  · subst y
    rw [if_pos rfl] at ht
    subst ht
    obtain ⟨rfl, rfl, rfl⟩ := a rfl
    have := cnt_0 hc
    subst this
    exact ⟨_, _, _, _, _, _, _, _, ⟨kk.a.of_eq ho, hk⟩, by simp [cnt], fun _ => ⟨rfl, rfl, rfl⟩, fun c => absurd c (by decide), fun c => absurd c (by decide)⟩
  · subst y
    rw [if_neg (by decide)] at ht
    subst ht
    obtain ⟨rfl, rfl, rfl⟩ := b rfl
    have := (cnt_1 hc).1
    subst this
    exact ⟨_, _, _, _, _, _, _, _, ⟨hk, kk.b.of_eq ho⟩, by simp [cnt], fun c => absurd c (by decide), fun _ => ⟨rfl, rfl, rfl⟩, fun c => absurd c (by decide)⟩
  · subst y
    rw [if_neg (by decide)] at ht
    subst ht
    obtain ⟨rfl, rfl, rfl⟩ := e rfl
    have := (cnt_2 hc).2
    subst this
    exact ⟨_, _, _, _, _, _, _, _, ⟨hk, kk.b.of_eq ho⟩, by simp [cnt], fun c => absurd c (by decide), fun c => absurd c (by decide), fun _ => ⟨rfl, rfl, rfl⟩⟩
theorem cd_done {d x : List UInt8} {c g mm t r m : Int} {pp l : List Plan} (k : Cd d c g mm pp) (ht : t = if c = 0 then 1 else 0) (hk : KF (slotL x t) true r m l) (ho : slotL x (1 - t) = slotL d (1 - t)) (hr : g < r) : Cd x t r m l := by
  have ki := k.in
  obtain ⟨h0, g0, m0, p0, h1, g1, m1, p1, kk, hc, a, b, e⟩ := k.h
  rcases (show c = 0 ∨ c = 1 ∨ c = -1 by omega) with y | y | y
  · subst y
    rw [if_pos rfl] at ht
    subst ht
    obtain ⟨rfl, rfl, rfl⟩ := a rfl
    exact ⟨_, _, _, _, _, _, _, _, ⟨kk.a.of_eq ho, hk⟩, by simp [cnt, hr], fun c => absurd c (by decide), fun _ => ⟨rfl, rfl, rfl⟩, fun c => absurd c (by decide)⟩
  · subst y
    rw [if_neg (by decide)] at ht
    subst ht
    obtain ⟨rfl, rfl, rfl⟩ := b rfl
    exact ⟨_, _, _, _, _, _, _, _, ⟨hk, kk.b.of_eq ho⟩, by
      unfold cnt
      rw [if_pos ⟨rfl, fun z => by omega⟩], fun _ => ⟨rfl, rfl, rfl⟩, fun c => absurd c (by decide), fun c => absurd c (by decide)⟩
  · subst y
    rw [if_neg (by decide)] at ht
    subst ht
    have := (cnt_2 hc).2
    subst this
    exact ⟨_, _, _, _, _, _, _, _, ⟨hk, kk.b.of_eq ho⟩, by simp [cnt], fun _ => ⟨rfl, rfl, rfl⟩, fun c => absurd c (by decide), fun c => absurd c (by decide)⟩
theorem PtR.get {d : List UInt8} {m : Int} {l : List Plan} {ps : List Put} (h : PtR d m l 0 ps) : ∃ r t, PQ d m l r t ∧ r < 4611686018427387904 ∧ ps = putsN (slo d t) (blkO r m l (half d : Int)) (half d) := by
  have a : askD d = 0 := Classical.byContradiction fun c => c (h.a c).1.symm
  have b : m ≤ 3 := by
    rcases Int.lt_or_le 3 m with c | c
    · have := (h.b a c).1; cases this
    · exact c
  have c : blkE 1 m l (half d : Int) = 0 := Classical.byContradiction fun c => c (h.c a b c).1.symm
  obtain ⟨r, t, q, x | x⟩ := h.d a b c
  · cases x.2.1
  · exact ⟨r, t, q, x.1, x.2.2⟩
/-- Writes of a put, broken off or not. -/
theorem torn_law {d x y : List UInt8} {m w tn : Int} {l : List Plan} {ps : List Put} (h : PtR d m l 0 ps) (hm : 0 ≤ m) (hw : 0 ≤ w ∧ w ≤ ps.length) (ht : 0 ≤ tn ∧ tn ≤ 64) (hx : x = doO d ps w tn) (hy : y = doO d ps ps.length 0) :
    doE d ps w tn = 0 ∧ doE d ps ps.length 0 = 0 ∧ (w = ps.length → SameD x y) ∧ (w < ps.length → SameD x d ∨ (SameD x y ∧ 0 < tn ∧ w = (ps.length : Int) - 1)) := by
  obtain ⟨r, t, q, hr, rfl⟩ := h.get
  have p := q.pt hr
  have k := q.kept hr hm
  generalize hbl : blkO r m l (half d : Int) = bl at *
  rw [puts_len] at hw hy ⊢
  have di := p.h2.in
  obtain ⟨x1, x2, x3⟩ := p.slots hw ht hx
  obtain ⟨y1, y2, y3⟩ := p.slots (w := (half d : Int)) (tn := 0) (by omega) (by omega) hy
  have y4 : slotL y t = bl := by
    rw [y2]
    exact mix_all (by rw [p.b, blks_len]) (fun i hi => p.bl64 hi) fun i hi => (slot_b64 p.h2 (by have := p.t01; omega)).get (by rw [slotL_len]; exact hi)
  have o3 : ∀ {a b : List UInt8}, a.length = b.length → slotL a t = slotL b t → slotL a (1 - t) = slotL b (1 - t) → SameD a b := fun hl a1 a2 => by
    rcases p.t01 with rfl | rfl
    · exact SameD.slots hl a1 a2
    · exact SameD.slots hl a2 a1
  refine ⟨p.doE hw ht, p.doE (by omega) (by omega), fun e => ?_, fun hlt => ?_⟩
  · refine o3 (x1.trans y1.symm) ?_ (x3.trans y3.symm)
    rw [x2, y4]
    refine list_ext (h := half d) (mix_len _ _ _ _) (by rw [p.b, blks_len]) fun i hi => ?_
    rw [mix_get hi, many_at, if_pos (by omega), List.take_of_length_le (by have := p.bl64 hi; omega), List.drop_of_length_le (by have := (slot_b64 p.h2 (i := t) (by have := p.t01; omega)).get (i := i) (by rw [slotL_len]; exact hi); omega), List.append_nil]
  · rcases Classical.em (∃ g m p, KeptIs (slotL x t) g m p) with ⟨g', m', p', K⟩ | n
    · rw [x2, p.b] at K
      rcases mix_main p.p (slotL_len _ _) p.f di.1 p.rb ht hw K with ⟨a1, a2⟩ | ⟨a1, a2⟩
      · refine .inr ⟨o3 (x1.trans y1.symm) ?_ (x3.trans y3.symm), by omega, by omega⟩
        rw [x2, y4, p.b]; exact a1
      · refine .inl (o3 x1 ?_ x3)
        rw [x2, a1, a2]; exact mix_none (slotL_len _ _)
    · obtain ⟨c, g, mm, pp, kc, hc, nx⟩ := q.h
      have kx := cd_none kc hc (kf_none fun g m ps z => n ⟨g, m, ps, z⟩) x3
      have ax : askD x = 0 := by have := q.a; unfold askD at this ⊢; rw [x1]; exact this
      exact .inl ⟨_, _, _, _, rd_of ax kx, rd_of q.a kc⟩
/-- Behind all writes. -/
theorem done_law {d y : List UInt8} {m e g mm : Int} {l pp : List Plan} {ps : List Put} (h : PtR d m l 0 ps) (hm : 0 ≤ m) (hy : y = doO d ps ps.length 0) (hd : RdR d e g mm pp) : ∃ r, RdR y 0 r m l ∧ 1 ≤ r ∧ (e = 0 → g < r) := by
  obtain ⟨r, t, q, hr, rfl⟩ := h.get
  have p := q.pt hr
  have k := q.kept hr hm
  generalize hbl : blkO r m l (half d : Int) = bl at *
  rw [puts_len] at hy
  have di := p.h2.in
  obtain ⟨y1, y2, y3⟩ := p.slots (w := (half d : Int)) (tn := 0) (by omega) (by omega) hy
  have y4 : slotL y t = bl := by
    rw [y2]
    exact mix_all (by rw [p.b, blks_len]) (fun i hi => p.bl64 hi) fun i hi => (slot_b64 p.h2 (by have := p.t01; omega)).get (by rw [slotL_len]; exact hi)
  obtain ⟨c, g', mm', pp', kc, hc, nx⟩ := q.h
  have ki := kc.in
  have mi := mxL_in (bl := slotL d t) (g := g') ki.2.1
  have lo := nx.lo
  have ky := cd_done kc hc (k.of_eq y4) y3 (by omega)
  have ay : askD y = 0 := by have := q.a; unfold askD at this ⊢; rw [y1]; exact this
  have R := rd_of ay ky
  rw [if_neg (by have := p.t01; omega)] at R
  refine ⟨r, R, p.rb.1, fun e0 => ?_⟩
  obtain ⟨x, kx, -⟩ := hd.b q.a
  obtain ⟨-, rfl, -⟩ := kx.uniq kc
  omega
/-- The slot that counts stays as it is. -/
theorem slots_law {d x : List UInt8} {m w tn e g mm ea ga ma eb gb mb : Int} {l pp pa pb : List Plan} {ps : List Put} (h : PtR d m l 0 ps) (hm : 0 ≤ m) (hw : 0 ≤ w ∧ w ≤ ps.length) (ht : 0 ≤ tn ∧ tn ≤ 64) (hx : x = doO d ps w tn) (hd : RdR d e g mm pp) (he : e = 0)
    (ha : SlR x 0 ea ga ma pa) (hb : SlR x 1 eb gb mb pb) : doE d ps w tn = 0 ∧ ((ea = 0 ∧ ga = g ∧ ma = mm ∧ pa = pp) ∨ (eb = 0 ∧ gb = g ∧ mb = mm ∧ pb = pp)) := by
  obtain ⟨r, t, q, hr, rfl⟩ := h.get
  have p := q.pt hr
  generalize hbl : blkO r m l (half d : Int) = bl at *
  rw [puts_len] at hw
  obtain ⟨x1, x2, x3⟩ := p.slots hw ht hx
  refine ⟨p.doE hw ht, ?_⟩
  have ax : askD x = 0 := by have := q.a; unfold askD at this ⊢; rw [x1]; exact this
  obtain ⟨c, g', mm', pp', kc, hc, nx⟩ := q.h
  obtain ⟨c2, k2, hc2⟩ := hd.b q.a
  obtain ⟨rfl, rfl, rfl, rfl⟩ := k2.uniq kc
  have ki := kc.in
  obtain ⟨h0, g0, m0, p0, h1, g1, m1, p1, kk, hcc, a, b, ee⟩ := kc.h
  rcases (show c2 = 0 ∨ c2 = 1 by omega) with z | z
  · subst z
    rw [if_pos rfl] at hc
    subst hc
    obtain ⟨rfl, rfl, rfl⟩ := a rfl
    have := cnt_0 hcc
    subst this
    have kx := kk.a.of_eq x3
    rcases ha.c ax (.inl rfl) with ⟨-, k'⟩ | ⟨e1, k'⟩
    · have := (KF.uniq kx k').1; cases this
    · obtain ⟨-, u1, u2, u3⟩ := KF.uniq kx k'
      exact .inl ⟨e1, u1.symm, u2.symm, u3.symm⟩
  · subst z
    rw [if_neg (by decide)] at hc
    subst hc
    obtain ⟨rfl, rfl, rfl⟩ := b rfl
    have := (cnt_1 hcc).1
    subst this
    have kx := kk.b.of_eq x3
    rcases hb.c ax (.inr rfl) with ⟨-, k'⟩ | ⟨e1, k'⟩
    · have := (KF.uniq kx k').1; cases this
    · obtain ⟨-, u1, u2, u3⟩ := KF.uniq kx k'
      exact .inr ⟨e1, u1.symm, u2.symm, u3.symm⟩
/-- What a put comes to, broken off. -/
structure DnR (d : List UInt8) (m : Int) (l : List Plan) (w tn : Int) (x : List UInt8) (b : Bool) : Prop where
  h : ∃ e ps, PtR d m l e ps ∧ ((e ≠ 0 ∧ x = d ∧ b = false) ∨ (e = 0 ∧ x = doO d ps (min w ps.length) tn ∧ (b = true ↔ doE d ps (min w ps.length) tn = 0)))
def one1 : List Plan := [⟨5, 0, [5]⟩]
theorem zeros_blk {n : Nat} {k : Int} (h : 64 * k.toNat + 64 ≤ n) : blk (List.replicate n 0) k = List.replicate 64 0 := by
  unfold blk
  rw [List.drop_replicate, List.take_replicate, Nat.min_eq_left (by omega)]
theorem fmt4 : fmtO 4 = List.replicate 256 0 := by
  unfold fmtO
  rw [if_pos (by decide)]; rfl
theorem d2_4 : D2 (List.replicate 256 0) := ⟨by rw [List.length_replicate]; unfold dOk; omega, by rw [List.length_replicate]; decide⟩
theorem half_4 : half (List.replicate 256 (0 : UInt8)) = 2 := by unfold half; rw [List.length_replicate]
theorem slot_4 {i : Int} (hi : i = 0 ∨ i = 1) : slotL (List.replicate 256 0) i = [List.replicate 64 0, List.replicate 64 0] := by
  unfold slotL
  rw [half_4]
  have e : List.range 2 = [0, 1] := rfl
  rw [e]
  simp only [List.map_cons, List.map_nil]
  rcases hi with rfl | rfl
  · rw [zeros_blk (by decide), zeros_blk (by decide)]
  · rw [zeros_blk (by decide), zeros_blk (by decide)]
theorem kf_4z {i : Int} (hi : i = 0 ∨ i = 1) : KF (slotL (List.replicate 256 0) i) false 0 0 [] := kf_none fun g m ps k => by
  have f := k.facts
  have h1 := f.ge
  have h2 := f.gl.1
  rw [slot_4 hi] at h1
  have : gV (List.take 8 (([List.replicate 64 0, List.replicate 64 0] : List (List UInt8)).getD 0 [])) = 0 := by decide
  omega
theorem cd_4 {c g m : Int} {ps : List Plan} (k : Cd (List.replicate 256 0) c g m ps) : c = -1 ∧ g = 0 := by
  obtain ⟨h0, g0, m0, p0, h1, g1, m1, p1, kk, hc, a, b, e⟩ := k.h
  obtain ⟨rfl, rfl, rfl, rfl⟩ := kk.a.uniq (kf_4z (.inl rfl))
  obtain ⟨rfl, rfl, rfl, rfl⟩ := kk.b.uniq (kf_4z (.inr rfl))
  have : c = -1 := by rw [hc]; decide
  subst this
  exact ⟨rfl, (e rfl).1⟩
theorem whole_one : wholeE one1 = 0 := wholeE_0.2 ⟨by decide, fun p hp => by
  have : p = ⟨5, 0, [5]⟩ := by simpa [one1] using hp
  subst this
  exact ⟨by decide, by decide, by decide, fun x hx => by
    have : x = 5 := by simpa using hx
    subst this; decide⟩⟩
theorem blk_one : blkE 1 2 one1 2 = 0 := blkE_0.2 ⟨by decide, by decide, by decide, whole_one, by
  have e : blkB 2 one1 = smI ((smI 2 ++ wholeB one1).length : Int) ++ (smI 2 ++ wholeB one1) := by
    unfold blkB blkIn wholeO
    rw [if_pos whole_one]
  rw [e]
  decide⟩
theorem alive_law {x : List UInt8} {b : Bool} {e g m : Int} {p : List Plan} (h : DnR (fmtO 4) 2 one1 99 0 x b) (hr : RdR x e g m p) : b = true ∧ e = 0 ∧ g = 1 ∧ m = 2 ∧ p = one1 := by
  rw [fmt4] at h
  obtain ⟨e0, ps, hp, hh⟩ := h.h
  have hb : blkE 1 2 one1 (half (List.replicate 256 (0 : UInt8)) : Int) = 0 := by rw [half_4]; exact blk_one
  obtain ⟨r, t, q, hx⟩ := hp.d d2_4.ask (by decide) hb
  obtain ⟨c, gg, mm, pp, kc, ht, nx⟩ := q.h
  obtain ⟨rfl, rfl⟩ := cd_4 kc
  rw [if_neg (by decide)] at ht
  subst ht
  have hm : mxL 0 (slotL (List.replicate 256 0) 0) = 0 := by rw [slot_4 (.inl rfl)]; decide
  have lo := nx.lo
  have hi := nx.hi
  rw [hm] at lo hi
  have r1 : r = 1 := by
    rcases Int.lt_or_le 1 r with c | c
    · refine absurd ?_ (nx.le 1 (by omega) c)
      rw [slot_4 (.inl rfl)]
      intro y hy
      have : y = List.replicate 64 0 := by simpa using hy
      subst this
      decide
    · omega
  rcases hx with ⟨c, -⟩ | ⟨-, c, cp⟩
  · omega
  · subst c
    rcases hh with ⟨c, -⟩ | ⟨-, hx, hb2⟩
    · exact absurd rfl c
    · have hl : ps.length = 2 := by rw [cp, puts_len, half_4]
      rw [show min (99 : Int) (ps.length : Int) = ps.length by omega] at hx hb2
      have T := (torn_law hp (by decide) (w := ps.length) (tn := 0) (by omega) (by omega) hx rfl).1
      obtain ⟨r', R, R1, -⟩ := done_law hp (by decide) hx (rd_of d2_4.ask kc)
      obtain ⟨rfl, rfl, rfl, rfl⟩ := hr.uniq R
      refine ⟨hb2.2 T, rfl, ?_, rfl, rfl⟩
      -- the number is the one that was reckoned
      obtain ⟨r2, t2, q2, q3, q4⟩ := hp.get
      obtain ⟨c2, gg2, mm2, pp2, kc2, ht2, nx2⟩ := q2.h
      obtain ⟨rfl, rfl⟩ := cd_4 kc2
      rw [if_neg (by decide)] at ht2
      subst ht2
      have p2 := q.pt (by omega)
      have k2 := q.kept (by omega) (by decide)
      obtain ⟨y1, y2, y3⟩ := p2.slots (w := (half (List.replicate 256 (0 : UInt8)) : Int)) (tn := 0) (by omega) (by omega) (x := x) (by rw [hx, hl, cp, half_4])
      have y4 : slotL x 0 = blkO r 2 one1 (half (List.replicate 256 (0 : UInt8)) : Int) := by
        rw [y2]
        exact mix_all (by rw [p2.b, blks_len]) (fun i hi => p2.bl64 hi) fun i hi => (slot_b64 p2.h2 (by omega)).get (by rw [slotL_len]; exact hi)
      have ky := cd_done kc (by rw [if_neg (by decide)]) (k2.of_eq y4) y3 (by omega)
      have ay : askD x = 0 := by have := q.a; unfold askD at this ⊢; rw [y1]; exact this
      have R3 := rd_of ay ky
      have := (R.uniq R3).2.1
      omega
theorem PtR.uniq {d : List UInt8} {m e e' : Int} {l : List Plan} {ps ps' : List Put} (h : PtR d m l e ps) (h' : PtR d m l e' ps') : e = e' ∧ ps = ps' := by
  by_cases a : askD d = 0
  · by_cases b : m ≤ 3
    · by_cases c : blkE 1 m l (half d : Int) = 0
      · obtain ⟨r, t, q, x⟩ := h.d a b c
        obtain ⟨r', t', q', x'⟩ := h'.d a b c
        obtain ⟨c1, g, mm, pp, k, ht, n⟩ := q.h
        obtain ⟨c1', g', mm', pp', k', ht', n'⟩ := q'.h
        obtain ⟨rfl, rfl, rfl, rfl⟩ := k.uniq k'
        have et : t = t' := ht.trans ht'.symm
        subst et
        have er := n.uniq n'
        subst er
        rcases x with ⟨y1, rfl, rfl⟩ | ⟨y1, rfl, rfl⟩ <;> rcases x' with ⟨y2, rfl, rfl⟩ | ⟨y2, rfl, rfl⟩
        · exact ⟨rfl, rfl⟩
        · omega
        · omega
        · exact ⟨rfl, rfl⟩
      · obtain ⟨rfl, rfl⟩ := h.c a b c
        obtain ⟨rfl, rfl⟩ := h'.c a b c
        exact ⟨rfl, rfl⟩
    · obtain ⟨rfl, rfl⟩ := h.b a (by omega)
      obtain ⟨rfl, rfl⟩ := h'.b a (by omega)
      exact ⟨rfl, rfl⟩
  · obtain ⟨rfl, rfl⟩ := h.a a
    obtain ⟨rfl, rfl⟩ := h'.a a
    exact ⟨rfl, rfl⟩
theorem DnR.get {d x : List UInt8} {m w tn : Int} {l : List Plan} {b : Bool} (h : DnR d m l w tn x b) (hb : b = true) : ∃ ps, PtR d m l 0 ps ∧ x = doO d ps (min w ps.length) tn := by
  obtain ⟨e, ps, hp, c | ⟨rfl, hx, -⟩⟩ := h.h
  · rw [hb] at c; exact absurd c.2.2 (by decide)
  · exact ⟨ps, hp, hx⟩
theorem dn_done {d x : List UInt8} {m e g mm : Int} {l pp : List Plan} {b : Bool} (h : DnR d m l 99 0 x b) (hb : b = true) (hm : 0 ≤ m) (hd : RdR d e g mm pp) : ∃ r, RdR x 0 r m l ∧ 1 ≤ r ∧ (e = 0 → g < r) := by
  obtain ⟨ps, hp, hx⟩ := h.get hb
  have := hp.in.2.1
  rw [show min (99 : Int) (ps.length : Int) = ps.length by omega] at hx
  exact done_law hp hm hx hd
theorem dn_twice {d x y : List UInt8} {m w tn : Int} {l : List Plan} {b b' : Bool} (h : DnR d m l w tn x b) (hb : b = true) (hm : 0 ≤ m) (hw : 0 ≤ w) (ht : 0 ≤ tn ∧ tn ≤ 64) (h' : DnR d m l 99 0 y b') : SameD x d ∨ SameD x y := by
  obtain ⟨ps, hp, hx⟩ := h.get hb
  have hl := hp.in.2.1
  obtain ⟨e', ps', hp', c⟩ := h'.h
  obtain ⟨rfl, rfl⟩ := hp.uniq hp'
  rcases c with ⟨c, -⟩ | ⟨-, hy, -⟩
  · exact absurd rfl c
  · rw [show min (99 : Int) (ps.length : Int) = ps.length by omega] at hy
    obtain ⟨-, -, T3, T4⟩ := torn_law hp hm (w := min w ps.length) (by omega) ht hx hy
    rcases Int.lt_or_le w ps.length with c | c
    · rcases T4 (by omega) with x | x
      · exact .inl x
      · exact .inr x.1
    · exact .inr (T3 (by omega))
theorem blkO_le (g m : Int) (ps : List Plan) (n : Int) : (blkO g m ps n).length ≤ 32 := by
  by_cases h : blkE g m ps n = 0
  · have := (blkE_0.1 h).1
    rw [blkO_len h]; omega
  · unfold blkO; rw [if_neg h]; simp
end Go.St
