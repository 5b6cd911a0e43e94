import Derived.Test.YtcdflgfhkohldaaStZ
namespace Go.St
open Go Go.Eng Go.Rw Go.Lk Go.Bk
set_option linter.unusedVariables false
set_option linter.unusedSimpArgs false
/-! The chapter's examples. -/
theorem blkB_of {m : Int} {ps : List Plan} (h : wholeE ps = 0) : blkB m ps = smI ((smI m ++ wholeB ps).length : Int) ++ (smI m ++ wholeB ps) := by
  unfold blkB blkIn wholeO
  rw [if_pos h]
/-- What a slot keeps, in bytes. -/
def insideL (m : Int) (ps : List Plan) (n : Nat) : List UInt8 := (smI ((smI m ++ wholeB ps).length : Int) ++ (smI m ++ wholeB ps)) ++ List.replicate (48 * n - (smI ((smI m ++ wholeB ps).length : Int) ++ (smI m ++ wholeB ps)).length) 0
theorem blkO_of {g m : Int} {ps : List Plan} {n : Nat} (h : wholeE ps = 0) (hb : blkE g m ps (n : Int) = 0) : blkO g m ps (n : Int) = blks g (insideL m ps n) n := by
  unfold blkO
  rw [if_pos hb, show ((n : Int)).toNat = n by omega]
  unfold blkP insideL
  rw [blkB_of h]
theorem whole_nil : wholeE [] = 0 := wholeE_0.2 ⟨by decide, fun p hp => by simp at hp⟩
theorem blk_nil {g : Int} (hg : 1 ≤ g ∧ g < 4611686018427387904) : blkE g 1 [] 2 = 0 := blkE_0.2 ⟨by decide, hg, by decide, whole_nil, by rw [blkB_of whole_nil]; decide⟩
theorem blk_one' {g : Int} (hg : 1 ≤ g ∧ g < 4611686018427387904) : blkE g 2 one1 2 = 0 := blkE_0.2 ⟨by decide, hg, by decide, whole_one, by rw [blkB_of whole_one]; decide⟩
/-- A device of four blocks that keeps one thing in its first slot, and noughts in the other. -/
structure Dev1 (x : List UInt8) : Prop where
  l : x.length = 256
  a : slotL x 0 = blks 1 (insideL 2 one1 2) 2
  b : slotL x 1 = [List.replicate 64 0, List.replicate 64 0]
theorem Dev1.d2 {x : List UInt8} (h : Dev1 x) : D2 x := ⟨by rw [h.l]; unfold dOk; omega, by rw [h.l]; decide⟩
theorem Dev1.half {x : List UInt8} (h : Dev1 x) : half x = 2 := by unfold St.half; rw [h.l]
theorem kf_zz : KF [List.replicate 64 0, List.replicate 64 0] false 0 0 [] := by
  have := kf_4z (i := 0) (.inl rfl)
  rwa [slot_4 (.inl rfl)] at this
theorem kf_11 : KF (blks 1 (insideL 2 one1 2) 2) true 1 2 one1 := by
  have hb := blk_one' (g := 1) (by decide)
  have e := blkO_of (n := 2) whole_one hb
  rw [← e]
  have hl : (blkO 1 2 one1 ((2 : Nat) : Int)).length = 2 := blkO_len hb
  have hc : ((blkO 1 2 one1 ((2 : Nat) : Int)).length : Int) = 2 := by rw [hl]; rfl
  exact kf_some ⟨by decide, by rw [hc]; exact hb, by rw [hc]; rfl⟩
theorem Dev1.cd {x : List UInt8} (h : Dev1 x) : Cd x 0 1 2 one1 :=
  ⟨_, _, _, _, _, _, _, _, ⟨by rw [h.a]; exact kf_11, by rw [h.b]; exact kf_zz⟩, by decide, fun _ => ⟨rfl, rfl, rfl⟩, fun c => absurd c (by decide), fun c => absurd c (by decide)⟩
theorem Dev1.rd {x : List UInt8} (h : Dev1 x) : RdR x 0 1 2 one1 := rd_of h.d2.ask h.cd
theorem nx_z {g r : Int} (hg : 0 ≤ g ∧ g < 100) (n : Nx g [List.replicate 64 0, List.replicate 64 0] r) : r = g + 1 := by
  have hz : gV (List.take 8 (List.replicate 64 (0 : UInt8))) = 0 := by decide
  have hz2 : gV (List.drop 56 (List.replicate 64 (0 : UInt8))) = 0 := by decide
  have hm : mxL g [List.replicate 64 0, List.replicate 64 0] = g := by
    unfold mxL
    simp only [List.foldl_cons, List.foldl_nil]
    unfold mxB
    rw [hz, hz2]
    have : mxE g 0 = g := by unfold mxE; rw [if_pos (by decide)]; omega
    rw [this, this, this, this]
  have lo := n.lo
  have hi := n.hi
  rw [hm] at lo hi
  rcases Int.lt_or_le (g + 1) r with c | c
  · refine absurd ?_ (n.le (g + 1) (by omega) c)
    intro y hy
    have : y = List.replicate 64 0 := by simpa using hy
    subst this
    have e : ((List.replicate 64 (0 : UInt8)).getD 56 0).toNat = 0 := by decide
    rw [e]
    omega
  · omega
/-- The first put. -/
theorem put_first {e : Int} {ps : List Put} (h : PtR (List.replicate 256 0) 2 one1 e ps) : e = 0 ∧ ps = putsN 0 (blks 1 (insideL 2 one1 2) 2) 2 := by
  have hb : blkE 1 2 one1 (half (List.replicate 256 (0 : UInt8)) : Int) = 0 := by rw [half_4]; exact blk_one
  obtain ⟨r, t, q, hx⟩ := h.d d2_4.ask (by decide) hb
  obtain ⟨c, gg, mm, pp, kc, ht, nx⟩ := q.h
  obtain ⟨rfl, rfl⟩ := cd_4 kc
  rw [if_neg (by decide)] at ht
  subst ht
  rw [slot_4 (.inl rfl)] at nx
  have r1 := nx_z (by decide) nx
  rcases hx with ⟨c, -⟩ | ⟨-, he, hps⟩
  · omega
  · refine ⟨he, ?_⟩
    rw [hps, show r = 1 by omega, slo_0, half_4]
    have := blkO_of (g := 1) (n := 2) whole_one blk_one
    rw [this]
theorem done_first {x : List UInt8} {w : Int} {b : Bool} (hw : 2 ≤ w) (h : DnR (List.replicate 256 0) 2 one1 w 0 x b) : b = true ∧ Dev1 x := by
  obtain ⟨e, ps, hp, hh⟩ := h.h
  obtain ⟨rfl, hps⟩ := put_first hp
  rcases hh with ⟨c, -⟩ | ⟨-, hx, hb⟩
  · exact absurd rfl c
  · have hl : ps.length = 2 := by rw [hps, puts_len]
    obtain ⟨r, t, q, hr, hq⟩ := hp.get
    obtain ⟨c, gg, mm, pp, kc, ht, nx⟩ := q.h
    obtain ⟨rfl, rfl⟩ := cd_4 kc
    rw [if_neg (by decide)] at ht
    subst ht
    rw [slot_4 (.inl rfl)] at nx
    have r1 : r = 1 := nx_z (by decide) nx
    subst r1
    have p := q.pt hr
    rw [show min w (ps.length : Int) = 2 by omega] at hx hb
    have hh2 : (half (List.replicate 256 (0 : UInt8)) : Int) = 2 := by rw [half_4]; rfl
    have T := p.doE (w := 2) (tn := 0) (by omega) (by omega)
    rw [← hq] at T
    obtain ⟨y1, y2, y3⟩ := p.slots (w := 2) (tn := 0) (by omega) (by omega) (x := x) (by rw [← hq]; exact hx)
    have bo : blkO 1 2 one1 (half (List.replicate 256 (0 : UInt8)) : Int) = blks 1 (insideL 2 one1 2) 2 := by
      rw [half_4]; exact blkO_of whole_one blk_one
    refine ⟨hb.2 T, ⟨by rw [y1, List.length_replicate], ?_, by rw [show (1 : Int) = 1 - 0 from rfl, y3]; exact slot_4 (.inr rfl)⟩⟩
    rw [y2, ← bo]
    have := mix_all (bl := blkO 1 2 one1 (half (List.replicate 256 (0 : UInt8)) : Int)) (ol := slotL (List.replicate 256 0) 0) (h := half (List.replicate 256 (0 : UInt8))) (by rw [p.b, blks_len]) (fun i hi => p.bl64 hi) fun i hi => (slot_b64 p.h2 (by omega)).get (by rw [slotL_len]; exact hi)
    rw [hh2] at this ⊢
    exact this
/-- The second one. -/
theorem put_second {x : List UInt8} {m e : Int} {l : List Plan} {ps : List Put} (d : Dev1 x) (hm : m ≤ 3) (hw : wholeE l = 0) (hb : ∀ g, 1 ≤ g ∧ g < 4611686018427387904 → blkE g m l 2 = 0) (h : PtR x m l e ps) : e = 0 ∧ PQ x m l 2 1 ∧ ps = putsN 2 (blks 2 (insideL m l 2) 2) 2 := by
  have hb1 : blkE 1 m l (half x : Int) = 0 := by rw [d.half]; exact hb 1 (by decide)
  obtain ⟨r, t, q, hx⟩ := h.d d.d2.ask hm hb1
  obtain ⟨c, gg, mm, pp, kc, ht, nx⟩ := q.h
  obtain ⟨rfl, rfl, rfl, rfl⟩ := kc.uniq d.cd
  rw [if_pos rfl] at ht
  subst ht
  rw [d.b] at nx
  have r1 : r = 2 := nx_z (by decide) nx
  subst r1
  rcases hx with ⟨c, -⟩ | ⟨-, rfl, rfl⟩
  · omega
  · refine ⟨rfl, q, ?_⟩
    rw [slo_1, d.half]
    have := blkO_of (g := 2) (n := 2) hw (hb 2 (by decide))
    rw [this]; rfl
theorem torn_second {x y : List UInt8} {tn : Int} {b : Bool} (d : Dev1 x) (ht : 0 ≤ tn ∧ tn ≤ 64) (h : DnR x 1 [] 1 tn y b) : y.length = x.length ∧ slotL y 1 = mixL (blks 2 (insideL 1 [] 2) 2) [List.replicate 64 0, List.replicate 64 0] (manyB 1 tn) 2 ∧ slotL y 0 = slotL x 0 := by
  obtain ⟨e, ps, hp, hh⟩ := h.h
  obtain ⟨rfl, q, hps⟩ := put_second d (by decide) whole_nil (fun g hg => blk_nil hg) hp
  rcases hh with ⟨c, -⟩ | ⟨-, hx, hb⟩
  · exact absurd rfl c
  · have hl : ps.length = 2 := by rw [hps, puts_len]
    have p := q.pt (by decide)
    rw [show min 1 (ps.length : Int) = 1 by omega] at hx
    have bo : blkO 2 1 [] (half x : Int) = blks 2 (insideL 1 [] 2) 2 := by
      rw [d.half]; exact blkO_of whole_nil (blk_nil (by decide))
    have hh2 := d.half
    obtain ⟨y1, y2, y3⟩ := p.slots (w := 1) (tn := tn) (by omega) ht (x := y) (by rw [hx, hps, bo, slo_1, hh2]; rfl)
    refine ⟨y1, ?_, y3⟩
    rw [y2, bo, d.b, hh2]
theorem mix_57 : mixL (blks 2 (insideL 1 [] 2) 2) [List.replicate 64 0, List.replicate 64 0] (manyB 1 57) 2 = blks 2 (insideL 1 [] 2) 2 := by decide
theorem kf_21 : KF (blks 2 (insideL 1 [] 2) 2) true 2 1 [] := by
  have hb := blk_nil (g := 2) (by decide)
  have e := blkO_of (n := 2) whole_nil hb
  rw [← e]
  have hl : (blkO 2 1 [] ((2 : Nat) : Int)).length = 2 := blkO_len hb
  have hc : ((blkO 2 1 [] ((2 : Nat) : Int)).length : Int) = 2 := by rw [hl]; rfl
  exact kf_some ⟨by decide, by rw [hc]; exact hb, by rw [hc]; rfl⟩
theorem free_z {r : Int} (h : 1 ≤ r ∧ r < 256) : freeB [List.replicate 64 0, List.replicate 64 0] r := fun y hy => by
  have : y = List.replicate 64 0 := by simpa using hy
  subst this
  have e : ((List.replicate 64 (0 : UInt8)).getD 56 0).toNat = 0 := by decide
  rw [e]; omega
theorem kf_56 : KF (mixL (blks 2 (insideL 1 [] 2) 2) [List.replicate 64 0, List.replicate 64 0] (manyB 1 56) 2) false 0 0 [] := kf_none fun g m p K => by
  rcases mix_main (P := insideL 1 [] 2) (r := 2) (w := 1) (t := 56) (h := 2) (by decide) rfl (free_z (by decide)) (by decide) (by decide) (by decide) (by decide) K with ⟨c, -⟩ | c
  · exact absurd c (by decide)
  · exact absurd c.1 (by decide)
theorem torn_56 {x y : List UInt8} {b : Bool} (d : Dev1 x) (h : DnR x 1 [] 1 56 y b) : RdR y 0 1 2 one1 := by
  obtain ⟨h1, h2, h3⟩ := torn_second d (by decide) h
  have k := cd_none (x := y) (t := 1) d.cd (by decide) (by rw [h2]; exact kf_56) h3
  exact rd_of (by unfold askD; rw [h1, d.l]; decide) k
theorem torn_57 {x y : List UInt8} {b : Bool} (d : Dev1 x) (h : DnR x 1 [] 1 57 y b) : RdR y 0 2 1 [] := by
  obtain ⟨h1, h2, h3⟩ := torn_second d (by decide) h
  have k := cd_done (x := y) (t := 1) (r := 2) (m := 1) (l := []) d.cd (by decide) (by rw [h2, mix_57]; exact kf_21) h3 (by decide)
  exact rd_of (by unfold askD; rw [h1, d.l]; decide) k
theorem put_4 {e : Int} {ps : List Put} (h : PtR (List.replicate 256 0) 4 [] e ps) : e = 2 := (h.b d2_4.ask (by decide)).1
theorem put_z {e : Int} {ps : List Put} (h : PtR (List.replicate 256 0) 0 [⟨0, 0, []⟩] e ps) : e = 170 := by
  have hw : wholeE [⟨0, 0, []⟩] = 170 := wholeE_170 (i := 0) (by decide) (by decide) fun p => by
    have := p.a
    exact absurd this (by decide)
  have hb : blkE 1 0 [⟨0, 0, []⟩] (half (List.replicate 256 (0 : UInt8)) : Int) = 170 := by
    rw [half_4]
    unfold blkE
    rw [if_neg (by decide), if_neg (by decide), hw, if_pos (by decide)]
  have := (h.c d2_4.ask (by decide) (by rw [hb]; decide)).1
  rw [this, hb]
theorem slot_2 {e g m : Int} {ps : List Plan} (h : SlR (List.replicate 256 0) 2 e g m ps) : e = 2 := (h.b d2_4.ask (by decide)).1
theorem read_4 {e g m : Int} {ps : List Plan} (h : RdR (List.replicate 256 0) e g m ps) : e = 190 := by
  obtain ⟨c, k, x⟩ := h.b d2_4.ask
  obtain ⟨rfl, -⟩ := cd_4 k
  omega
theorem puts_0 (s : Int) (bl : List (List UInt8)) : putsN s bl 2 = [⟨s + 0, bl.getD 0 []⟩, ⟨s + 1, bl.getD 1 []⟩] := rfl
theorem bytes_1 : ((blks 1 (insideL 2 one1 2) 2).getD 0 []).take 16 = [1, 0, 0, 0, 0, 0, 0, 0, 6, 2, 1, 5, 0, 1, 5, 0] := by decide
theorem byte_2 : ((blks 1 (insideL 2 one1 2) 2).getD 1 []).getD 56 0 = 1 := by decide
theorem byte_3 : ((blks 2 (insideL 2 one1 2) 2).getD 0 []).getD 0 0 = 2 := by decide
theorem len_1 : ((blks 1 (insideL 2 one1 2) 2).getD 0 []).length = 64 := by decide
theorem len_2 : ((blks 1 (insideL 2 one1 2) 2).getD 1 []).length = 64 := by decide
theorem len_3 : ((blks 2 (insideL 2 one1 2) 2).getD 0 []).length = 64 := by decide
theorem pg_0 (s : Int) (bl : List (List UInt8)) (z : Put) : (putsN s bl 2).getD (Int.toNat 0) z = ⟨s, bl.getD 0 []⟩ := by
  show (⟨s + 0, bl.getD 0 []⟩ : Put) = _
  rw [Int.add_zero]
theorem pg_1 (s : Int) (bl : List (List UInt8)) (z : Put) : (putsN s bl 2).getD (Int.toNat 1) z = ⟨s + 1, bl.getD 1 []⟩ := rfl
theorem first_x {e : Int} {ps : List Put} (h : PtR (List.replicate 256 0) 2 one1 e ps) (z : Put) : e = 0 ∧ (ps.length : Int) = 2 ∧ (ps.getD (Int.toNat 0) z).n = 0 ∧ (ps.getD (Int.toNat 1) z).n = 1 ∧ ((ps.getD (Int.toNat 0) z).data.length : Int) = 64 ∧ ((ps.getD (Int.toNat 1) z).data.length : Int) = 64 ∧ (ps.getD (Int.toNat 0) z).data.take (Int.toNat 16) = [1, 0, 0, 0, 0, 0, 0, 0, 6, 2, 1, 5, 0, 1, 5, 0] ∧ (((ps.getD (Int.toNat 1) z).data.getD (Int.toNat 56) 0).toNat : Int) = 1 := by
  obtain ⟨a, b⟩ := put_first h
  subst b
  rw [pg_0, pg_1]
  refine ⟨a, by rw [puts_len]; rfl, rfl, rfl, ?_, ?_, bytes_1, ?_⟩
  · show (((blks 1 (insideL 2 one1 2) 2).getD 0 []).length : Int) = 64
    rw [len_1]; rfl
  · show (((blks 1 (insideL 2 one1 2) 2).getD 1 []).length : Int) = 64
    rw [len_2]; rfl
  · show ((((blks 1 (insideL 2 one1 2) 2).getD 1 []).getD 56 0).toNat : Int) = 1
    rw [byte_2]; rfl
theorem second_x {x : List UInt8} {e : Int} {ps : List Put} (d : Dev1 x) (h : PtR x 2 one1 e ps) (z : Put) : e = 0 ∧ (ps.length : Int) = 2 ∧ (ps.getD (Int.toNat 0) z).n = 2 ∧ (ps.getD (Int.toNat 1) z).n = 3 ∧ ((ps.getD (Int.toNat 0) z).data.length : Int) = 64 ∧ (((ps.getD (Int.toNat 0) z).data.getD (Int.toNat 0) 0).toNat : Int) = 2 := by
  obtain ⟨a, -, b⟩ := put_second d (by decide) whole_one (fun g hg => blk_one' hg) h
  subst b
  rw [pg_0, pg_1]
  refine ⟨a, by rw [puts_len]; rfl, rfl, rfl, ?_, ?_⟩
  · show (((blks 2 (insideL 2 one1 2) 2).getD 0 []).length : Int) = 64
    rw [len_3]; rfl
  · show ((((blks 2 (insideL 2 one1 2) 2).getD 0 []).getD 0 0).toNat : Int) = 2
    rw [byte_3]; rfl
theorem fmt1 : fmtE 1 = 190 := (fmt_190 (by decide) rfl).symm
theorem fmt65 : fmtE 65 = 180 := (fmt_180 (by decide)).symm
end Go.St
