/-
Two puts, each broken off, leave one of three: the statement answers true for every input.
-/
import Derived.Test.YtcdflgfhkohldaaSuB
import Derived.Test.YtcdflgfhkohldaaEngR
import Derived.Test.YtcdflgfhkohldaaEngY
import Derived.Test.YtcdflgfhkohldaaRows
namespace Go.Proofs.Ytcdflgfhkohldaa
open Go Go.Eng Go.Rw Go.Lk Go.Proofs
open Go.Bk hiding take_step drop_step set_mid
open Go.St hiding take_step
set_option linter.unusedVariables false
set_option maxHeartbeats 2000000 in
theorem storeTwice_vc (d : List UInt8) (ga : Int) (ga0 : (-9223372036854775808 : Int) ≤ ga) (ga1 : ga ≤ (9223372036854775807 : Int)) (ma : Int) (ma0 : (0 : Int) ≤ ma) (ma1 : ma ≤ (255 : Int)) (la : List Plan) (gb : Int) (gb0 : (-9223372036854775808 : Int) ≤ gb) (gb1 : gb ≤ (9223372036854775807 : Int)) (mb : Int) (mb0 : (0 : Int) ≤ mb) (mb1 : mb ≤ (255 : Int)) (lb : List Plan) (w : Int) (w0 : (-9223372036854775808 : Int) ≤ w) (w1 : w ≤ (9223372036854775807 : Int)) (t : Int) (t0 : (-9223372036854775808 : Int) ≤ t) (t1 : t ≤ (9223372036854775807 : Int)) (w2 : Int) (w20 : (-9223372036854775808 : Int) ≤ w2) (w21 : w2 ≤ (9223372036854775807 : Int)) (t2 : Int) (t20 : (-9223372036854775808 : Int) ≤ t2) (t21 : t2 ≤ (9223372036854775807 : Int)) (k : AV → List (Option Blk) → List Blk → Prop) (hk : k (AV.bool true) [] []) :
 ∀ (r_1 : Bool),
 ((r_1 = false) →
 (d.length ≤ (5000 : Nat))) →
 br (r_1)
 ((true = true) ∧
  (k (AV.bool true) [] []))
 (∀ (r_3 : Bool),
  ((r_3 = false) →
  (d.length ≤ (5000 : Nat))) →
  br (bif bif bif bif bif bif bif false then true else r_3 then true else decide (w < (0 : Int)) then true else decide (w2 < (0 : Int)) then true else decide (t < (0 : Int)) then true else decide (t > (64 : Int)) then true else decide (t2 < (0 : Int)) then true else decide (t2 > (64 : Int)))
  ((k (AV.bool true) [] []))
  (∀ (n5 : Int),
   (n5 = ma) →
   ((0 : Int) ≤ n5 ∧ n5 ≤ (255 : Int)) →
   (
   (
    ((0 : Int) ≤ n5) ∧
    (n5 ≤ (255 : Int))) ∧
   (d.length ≤ (1000000 : Nat)) ∧
   ((-9223372036854775808 : Int) ≤ w) ∧
   (w ≤ (9223372036854775807 : Int))) ∧
   ∀ (n8 : List UInt8),
   ∀ (b_9 : Bool),
   (DnR d n5 la w t n8 b_9) →
   (n8.length ≤ d.length) →
   br (!b_9)
   ((k (AV.bool true) [] []))
   (∀ (n12 : Int),
    (n12 = ma) →
    ((0 : Int) ≤ n12 ∧ n12 ≤ (255 : Int)) →
    (
    (
     ((0 : Int) ≤ n12) ∧
     (n12 ≤ (255 : Int))) ∧
    (d.length ≤ (1000000 : Nat)) ∧
    ((-9223372036854775808 : Int) ≤ (99 : Int)) ∧
    ((99 : Int) ≤ (9223372036854775807 : Int))) ∧
    ∀ (n15 : List UInt8),
    ∀ (b_16 : Bool),
    (DnR d n12 la (99 : Int) (0 : Int) n15 b_16) →
    (n15.length ≤ d.length) →
    ∀ (r_19 : Bool),
    (r_19 = true ↔ SameD n8 d) →
    br (!r_19)
    (∀ (r_21 : Bool),
     (r_21 = true ↔ SameD n8 n15) →
     br (bif true then !r_21 else false)
     ((k (AV.bool false) [] []))
     (∀ (n23 : Int),
      (n23 = mb) →
      ((0 : Int) ≤ n23 ∧ n23 ≤ (255 : Int)) →
      (
      (
       ((0 : Int) ≤ n23) ∧
       (n23 ≤ (255 : Int))) ∧
      (n8.length ≤ (1000000 : Nat)) ∧
      ((-9223372036854775808 : Int) ≤ w2) ∧
      (w2 ≤ (9223372036854775807 : Int))) ∧
      ∀ (n26 : List UInt8),
      ∀ (b_27 : Bool),
      (DnR n8 n23 lb w2 t2 n26 b_27) →
      (n26.length ≤ n8.length) →
      br (!b_27)
      ((k (AV.bool true) [] []))
      (∀ (n30 : Int),
       (n30 = mb) →
       ((0 : Int) ≤ n30 ∧ n30 ≤ (255 : Int)) →
       (
       (
        ((0 : Int) ≤ n30) ∧
        (n30 ≤ (255 : Int))) ∧
       (n8.length ≤ (1000000 : Nat)) ∧
       ((-9223372036854775808 : Int) ≤ (99 : Int)) ∧
       ((99 : Int) ≤ (9223372036854775807 : Int))) ∧
       ∀ (n33 : List UInt8),
       ∀ (b_34 : Bool),
       (DnR n8 n30 lb (99 : Int) (0 : Int) n33 b_34) →
       (n33.length ≤ n8.length) →
       ∀ (r_37 : Bool),
       (r_37 = true ↔ SameD n26 n8) →
       br (r_37)
       ((
        (true = true) →
        (true = true)) ∧
        (k (AV.bool (bif true then true else false)) [] []))
       (∀ (r_39 : Bool),
        (r_39 = true ↔ SameD n26 n33) →
        (k (AV.bool (bif true then bif false then true else r_39 else false)) [] [])))))
    ((false = false) ∧
     ∀ (n41 : Int),
     (n41 = mb) →
     ((0 : Int) ≤ n41 ∧ n41 ≤ (255 : Int)) →
     (
     (
      ((0 : Int) ≤ n41) ∧
      (n41 ≤ (255 : Int))) ∧
     (n8.length ≤ (1000000 : Nat)) ∧
     ((-9223372036854775808 : Int) ≤ w2) ∧
     (w2 ≤ (9223372036854775807 : Int))) ∧
     ∀ (n44 : List UInt8),
     ∀ (b_45 : Bool),
     (DnR n8 n41 lb w2 t2 n44 b_45) →
     (n44.length ≤ n8.length) →
     br (!b_45)
     ((k (AV.bool true) [] []))
     (∀ (n48 : Int),
      (n48 = mb) →
      ((0 : Int) ≤ n48 ∧ n48 ≤ (255 : Int)) →
      (
      (
       ((0 : Int) ≤ n48) ∧
       (n48 ≤ (255 : Int))) ∧
      (n8.length ≤ (1000000 : Nat)) ∧
      ((-9223372036854775808 : Int) ≤ (99 : Int)) ∧
      ((99 : Int) ≤ (9223372036854775807 : Int))) ∧
      ∀ (n51 : List UInt8),
      ∀ (b_52 : Bool),
      (DnR n8 n48 lb (99 : Int) (0 : Int) n51 b_52) →
      (n51.length ≤ n8.length) →
      ∀ (r_55 : Bool),
      (r_55 = true ↔ SameD n44 n8) →
      br (r_55)
      ((
       (true = true) →
       (true = true)) ∧
       (k (AV.bool (bif true then true else false)) [] []))
      (∀ (r_57 : Bool),
       (r_57 = true ↔ SameD n44 n51) →
       (k (AV.bool (bif true then bif false then true else r_57 else false)) [] []))))))) := by
 intro r_1
 intro h1
 refine br_intro (fun c2 => ?_) (fun c2 => ?_)
 ·
  refine ⟨by with_reducible rfl, ?_⟩
  exact hk
 ·
  intro r_3
  intro h3
  refine br_intro (fun c4 => ?_) (fun c4 => ?_)
  ·
   simp at c4
   exact hk
  ·
   simp at c4
   intro n5
   intro q5
   intro ⟨l5, u5⟩
   refine ⟨?_, ?_⟩
   ·
    refine ⟨by exact ⟨by assumption, by assumption⟩, ?_⟩
    have h5 : d.length ≤ (1000000 : Nat) := by
     have := h3 c4.1.1.1.1.1.1
     omega
    refine ⟨h5, ?_⟩
    refine ⟨by assumption, ?_⟩
    exact by assumption
   intro n8
   intro b_9
   intro h6
   intro h7
   refine br_intro (fun c8 => ?_) (fun c8 => ?_)
   ·
    simp at c8
    exact hk
   ·
    simp at c8
    intro n12
    intro q12
    intro ⟨l12, u12⟩
    refine ⟨?_, ?_⟩
    ·
     refine ⟨by exact ⟨by assumption, by assumption⟩, ?_⟩
     have h9 : d.length ≤ (1000000 : Nat) := by
      have := h3 c4.1.1.1.1.1.1
      omega
     refine ⟨h9, ?_⟩
     refine ⟨by first | omega | (dsimp only; omega), ?_⟩
     exact by omega
    intro n15
    intro b_16
    intro h10
    intro h11
    intro r_19
    intro h12
    refine br_intro (fun c13 => ?_) (fun c13 => ?_)
    ·
     simp at c13
     intro r_21
     intro h14
     refine br_intro (fun c15 => ?_) (fun c15 => ?_)
     ·
      simp at c15
      rw [q5] at h6
      rw [q12] at h10
      rcases dn_twice h6 c8 (by omega) (by omega) (by omega) h10 with c | c
      ·
       exact absurd (h12.2 c) (by rw [show r_19 = false by assumption]; decide)
      ·
       exact absurd (h14.2 c) (by rw [show r_21 = false by assumption]; decide)
     ·
      simp at c15
      intro n23
      intro q23
      intro ⟨l23, u23⟩
      refine ⟨?_, ?_⟩
      ·
       refine ⟨by exact ⟨by assumption, by assumption⟩, ?_⟩
       have h16 : n8.length ≤ (1000000 : Nat) := by
        have := h3 c4.1.1.1.1.1.1
        omega
       refine ⟨h16, ?_⟩
       refine ⟨by assumption, ?_⟩
       exact by assumption
      intro n26
      intro b_27
      intro h17
      intro h18
      refine br_intro (fun c19 => ?_) (fun c19 => ?_)
      ·
       simp at c19
       exact hk
      ·
       simp at c19
       intro n30
       intro q30
       intro ⟨l30, u30⟩
       refine ⟨?_, ?_⟩
       ·
        refine ⟨by exact ⟨by assumption, by assumption⟩, ?_⟩
        have h20 : n8.length ≤ (1000000 : Nat) := by
         have := h3 c4.1.1.1.1.1.1
         omega
        refine ⟨h20, ?_⟩
        refine ⟨by first | omega | (dsimp only; omega), ?_⟩
        exact by omega
       intro n33
       intro b_34
       intro h21
       intro h22
       intro r_37
       intro h23
       refine br_intro (fun c24 => ?_) (fun c24 => ?_)
       ·
        refine ⟨?_, ?_⟩
        ·
         intro h25
         simp at h25
         exact by with_reducible rfl
        exact hk
       ·
        intro r_39
        intro h26
        rw [q23] at h17
        rw [q30] at h21
        have hf : r_37 = false := by assumption
        refine k_true hk ?_
        rcases dn_twice h17 c19 (by omega) (by omega) (by omega) h21 with c | c
        ·
         rw [h23.2 c] at hf; cases hf
        ·
         rw [h26.2 c]; rfl
    ·
     simp at c13
     refine ⟨by with_reducible rfl, ?_⟩
     intro n41
     intro q41
     intro ⟨l41, u41⟩
     refine ⟨?_, ?_⟩
     ·
      refine ⟨by exact ⟨by assumption, by assumption⟩, ?_⟩
      have h27 : n8.length ≤ (1000000 : Nat) := by
       have := h3 c4.1.1.1.1.1.1
       omega
      refine ⟨h27, ?_⟩
      refine ⟨by assumption, ?_⟩
      exact by assumption
     intro n44
     intro b_45
     intro h28
     intro h29
     refine br_intro (fun c30 => ?_) (fun c30 => ?_)
     ·
      simp at c30
      exact hk
     ·
      simp at c30
      intro n48
      intro q48
      intro ⟨l48, u48⟩
      refine ⟨?_, ?_⟩
      ·
       refine ⟨by exact ⟨by assumption, by assumption⟩, ?_⟩
       have h31 : n8.length ≤ (1000000 : Nat) := by
        have := h3 c4.1.1.1.1.1.1
        omega
       refine ⟨h31, ?_⟩
       refine ⟨by first | omega | (dsimp only; omega), ?_⟩
       exact by omega
      intro n51
      intro b_52
      intro h32
      intro h33
      intro r_55
      intro h34
      refine br_intro (fun c35 => ?_) (fun c35 => ?_)
      ·
       refine ⟨?_, ?_⟩
       ·
        intro h36
        simp at h36
        exact by with_reducible rfl
       exact hk
      ·
       intro r_57
       intro h37
       rw [q41] at h28
       rw [q48] at h32
       have hf : r_55 = false := by assumption
       refine k_true hk ?_
       rcases dn_twice h28 c30 (by omega) (by omega) (by omega) h32 with c | c
       ·
        rw [h34.2 c] at hf; cases hf
       ·
        rw [h37.2 c]; rfl

theorem storeTwice_ok : Holds Try.prog 7 lawTwice := by
  refine fn_sound (env := mkEnv H8) (tab_ok H8_ok) Try.func7 Try.call7 fun args k h => ?_
  match args, h with
  | [.agg [.sl 0 d], .agg [.int .i64 ga, .int .u8 ma, .sl 10 la], .agg [.int .i64 gb, .int .u8 mb, .sl 10 lb], .int .i64 w, .int .i64 t, .int .i64 w2, .int .i64 t2], h => exact ⟨by kernel_rfl, fun _ _ => none, fun _ _ => none, .cast (by kernel_rfl) (storeTwice_vc d ga h.1.1 h.1.2 ma h.2.1.1 h.2.1.2 la gb h.2.2.1.1 h.2.2.1.2 mb h.2.2.2.1.1 h.2.2.2.1.2 lb w h.2.2.2.2.1.1 h.2.2.2.2.1.2 t h.2.2.2.2.2.1.1 h.2.2.2.2.2.1.2 w2 h.2.2.2.2.2.2.1.1 h.2.2.2.2.2.2.1.2 t2 h.2.2.2.2.2.2.2.1.1 h.2.2.2.2.2.2.2.1.2 k h.2.2.2.2.2.2.2.2)⟩
end Go.Proofs.Ytcdflgfhkohldaa
namespace Go.Proofs.Ytcdflgfhkohldaa
open Go.ChangeShapes Go.WideShapes Go.ChangeAt Go.RowKit Go.Eng
set_option linter.unusedVariables false

theorem ownW : ownKnob Try.prog.godebug = none := by kernel_rfl
theorem laidW : laidOutB Try.prog = true := by kernel_rfl

set_option maxHeartbeats 800000 in
set_option maxRecDepth 100000 in
theorem storeTwiceLifted (os : Os) (started : os.Started) (H : Type) (enc : TypeId × Value → H) :
    ReturnsInHanded {} Try.checked os 7 .any (Rows.storeTwiceSpec.pre6 enc Try.prog Try.f7 Rows.storeTwiceRow.domain false) (Rows.storeTwiceSpec.post enc Try.prog Try.f7 false true false false) := by
  refine returnsInHanded_of_change (C := Try.checked) ownW started (by kernel_rfl) Try.func7
    (ChangeSpec.witness6 (enc := enc) (C := Try.checked) false ⟨#[], #[.agg #[.slice none 0 0], .agg #[.int .i64 0, .int .u8 0, .slice none 0 0], .agg #[.int .i64 0, .int .u8 0, .slice none 0 0], .int .i64 0, .int .i64 0, .int .i64 0, .int .i64 0], []⟩ 8 (by kernel_rfl) (by kernel_rfl) (by kernel_rfl) (by kernel_rfl)) ?_
  intro W base args ds gs before hval0 hW hcnd _
  have hval : ∀ (j : Nat) t v, Try.f7.params[j]? = some t → args[j]? = some v → Value.okWide Try.prog W .any base t v := hval0
  have hW' := hW
  obtain ⟨p, q, hA0, hV, rfl, hfz, hnd⟩ := hW
  have hA : DataW.TrodAll enc Try.prog W 0 (fun _ => true) true Try.f7.params.toList args.toList ds p := hA0
  rw [Try.params7] at hA hval
  obtain ⟨v0, vs0, d0, ds0, p0, q0, hargs, rfl, rfl, h0, r0⟩ := trodAll_cons hA
  obtain ⟨v1, vs1, d1, ds1, p1, q1, rfl, rfl, rfl, h1, r1⟩ := trodAll_cons r0
  obtain ⟨v2, vs2, d2, ds2, p2, q2, rfl, rfl, rfl, h2, r2⟩ := trodAll_cons r1
  obtain ⟨v3, vs3, d3, ds3, p3, q3, rfl, rfl, rfl, h3, r3⟩ := trodAll_cons r2
  obtain ⟨v4, vs4, d4, ds4, p4, q4, rfl, rfl, rfl, h4, r4⟩ := trodAll_cons r3
  obtain ⟨v5, vs5, d5, ds5, p5, q5, rfl, rfl, rfl, h5, r5⟩ := trodAll_cons r4
  obtain ⟨v6, vs6, d6, ds6, p6, q6, rfl, rfl, rfl, h6, r6⟩ := trodAll_cons r5
  obtain ⟨rfl, rfl, rfl⟩ := trodAll_nil r6
  obtain rfl : args = #[v0, v1, v2, v3, v4, v5, v6] := by cases args; simp_all
  obtain ⟨rfl, rfl⟩ := trodVars_none hV
  have k0 := h0
  have lt0 : ∀ x ∈ p0, x.block < W.heap.size := by obtain ⟨m, hm⟩ := k0; exact DataW.trod_lt m _ _ _ hm
  obtain ⟨fuel0, hf0⟩ := h0
  obtain ⟨cs0, rfl, hsz0, hcs0⟩ := open_scal Try.underlying35 (by kernel_rfl) (by kernel_rfl) (hval 0 35 v0 rfl rfl) hf0
  obtain ⟨c0_0, rfl⟩ : ∃ b0, cs0 = #[b0] := by
    exact arr1 hsz0
  obtain ⟨n0_0, y0_0, hy0_0⟩ := hcs0 0 _ _ rfl rfl
  obtain ⟨u0_0, xs0_0, e0_0, o0_0, w0_0, -⟩ := rep_slice (c := 0) (by decide) Try.underlying32 (by kernel_rfl) (cells_u8 Try.underlying5) hy0_0
  obtain rfl : c0_0 = u0_0 := by simpa using e0_0
  have k1 := h1
  have lt1 : ∀ x ∈ p1, x.block < W.heap.size := by obtain ⟨m, hm⟩ := k1; exact DataW.trod_lt m _ _ _ hm
  obtain ⟨fuel1, hf1⟩ := h1
  obtain ⟨cs1, rfl, hsz1, hcs1⟩ := open_scal Try.underlying24 (by kernel_rfl) (by kernel_rfl) (hval 1 24 v1 rfl rfl) hf1
  obtain ⟨c1_0, c1_1, c1_2, rfl⟩ : ∃ b0 b1 b2, cs1 = #[b0, b1, b2] := by
    exact arr3 hsz1
  obtain ⟨n1_0, y1_0, hy1_0⟩ := hcs1 0 _ _ rfl rfl
  obtain ⟨a1_0, e1_0, -, w1_0⟩ := DataW.trod_int Try.underlying3 hy1_0
  obtain rfl : c1_0 = .int .i64 a1_0 := by simpa using e1_0
  obtain ⟨n1_1, y1_1, hy1_1⟩ := hcs1 1 _ _ rfl rfl
  obtain ⟨a1_1, e1_1, -, w1_1⟩ := DataW.trod_int Try.underlying5 hy1_1
  obtain rfl : c1_1 = .int .u8 a1_1 := by simpa using e1_1
  obtain ⟨n1_2, y1_2, hy1_2⟩ := hcs1 2 _ _ rfl rfl
  obtain ⟨u1_2, xs1_2, e1_2, o1_2, w1_2, -⟩ := rep_slice (c := 10) (by decide) Try.underlying22 (by kernel_rfl) (cells_plan Try.underlying71 (by kernel_rfl) rfl Try.underlying3 Try.underlying3 Try.underlying69 Try.underlying3 (by kernel_rfl) (by kernel_rfl) (by kernel_rfl) (by kernel_rfl)) hy1_2
  obtain rfl : c1_2 = u1_2 := by simpa using e1_2
  have k2 := h2
  have lt2 : ∀ x ∈ p2, x.block < W.heap.size := by obtain ⟨m, hm⟩ := k2; exact DataW.trod_lt m _ _ _ hm
  obtain ⟨fuel2, hf2⟩ := h2
  obtain ⟨cs2, rfl, hsz2, hcs2⟩ := open_scal Try.underlying24 (by kernel_rfl) (by kernel_rfl) (hval 2 24 v2 rfl rfl) hf2
  obtain ⟨c2_0, c2_1, c2_2, rfl⟩ : ∃ b0 b1 b2, cs2 = #[b0, b1, b2] := by
    exact arr3 hsz2
  obtain ⟨n2_0, y2_0, hy2_0⟩ := hcs2 0 _ _ rfl rfl
  obtain ⟨a2_0, e2_0, -, w2_0⟩ := DataW.trod_int Try.underlying3 hy2_0
  obtain rfl : c2_0 = .int .i64 a2_0 := by simpa using e2_0
  obtain ⟨n2_1, y2_1, hy2_1⟩ := hcs2 1 _ _ rfl rfl
  obtain ⟨a2_1, e2_1, -, w2_1⟩ := DataW.trod_int Try.underlying5 hy2_1
  obtain rfl : c2_1 = .int .u8 a2_1 := by simpa using e2_1
  obtain ⟨n2_2, y2_2, hy2_2⟩ := hcs2 2 _ _ rfl rfl
  obtain ⟨u2_2, xs2_2, e2_2, o2_2, w2_2, -⟩ := rep_slice (c := 10) (by decide) Try.underlying22 (by kernel_rfl) (cells_plan Try.underlying71 (by kernel_rfl) rfl Try.underlying3 Try.underlying3 Try.underlying69 Try.underlying3 (by kernel_rfl) (by kernel_rfl) (by kernel_rfl) (by kernel_rfl)) hy2_2
  obtain rfl : c2_2 = u2_2 := by simpa using e2_2
  obtain ⟨a3, rfl, rfl, rfl, w3⟩ := open_int Try.underlying3 (hval 3 3 v3 rfl rfl) h3
  obtain ⟨a4, rfl, rfl, rfl, w4⟩ := open_int Try.underlying3 (hval 4 3 v4 rfl rfl) h4
  obtain ⟨a5, rfl, rfl, rfl, w5⟩ := open_int Try.underlying3 (hval 5 3 v5 rfl rfl) h5
  obtain ⟨a6, rfl, rfl, rfl, w6⟩ := open_int Try.underlying3 (hval 6 3 v6 rfl rfl) h6
  clear hA0 hval0
  have hk1_0 : kwf .i64 a1_0 := by simpa [Lit.wf, kwf] using w1_0
  have hk1_1 : kwf .u8 a1_1 := by simpa [Lit.wf, kwf] using w1_1
  have hk2_0 : kwf .i64 a2_0 := by simpa [Lit.wf, kwf] using w2_0
  have hk2_1 : kwf .u8 a2_1 := by simpa [Lit.wf, kwf] using w2_1
  have hk3 : kwf .i64 a3 := by simpa [Lit.wf, kwf] using w3
  have hk4 : kwf .i64 a4 := by simpa [Lit.wf, kwf] using w4
  have hk5 : kwf .i64 a5 := by simpa [Lit.wf, kwf] using w5
  have hk6 : kwf .i64 a6 := by simpa [Lit.wf, kwf] using w6
  refine (calls_of_holds storeTwice_ok Try.call7 (w := W) (vals := #[.agg #[c0_0], .agg #[.int .i64 a1_0, .int .u8 a1_1, c1_2], .agg #[.int .i64 a2_0, .int .u8 a2_1, c2_2], .int .i64 a3, .int .i64 a4, .int .i64 a5, .int .i64 a6]) (args := [.agg [.sl 0 xs0_0], .agg [.int .i64 a1_0, .int .u8 a1_1, .sl 10 xs1_2], .agg [.int .i64 a2_0, .int .u8 a2_1, .sl 10 xs2_2], .int .i64 a3, .int .i64 a4, .int .i64 a5, .int .i64 a6]) rfl (fun j v hj => ?_) ⟨hk1_0, hk1_1, hk2_0, hk2_1, hk3, hk4, hk5, hk6, rfl⟩).mono fun e W' ⟨he, bel⟩ => ?_
  · rcases j with _ | _ | _ | _ | _ | _ | _ | j
    · simp at hj; subst hj; refine .agg rfl (fun j v h => ?_) (fun j v h => ?_) <;> rcases j with _ | j <;> simp at h <;> subst h <;> first | rfl | exact .bool | exact .int (by assumption) | assumption
    · simp at hj; subst hj; refine .agg rfl (fun j v h => ?_) (fun j v h => ?_) <;> rcases j with _ | _ | _ | j <;> simp at h <;> subst h <;> first | rfl | exact .bool | exact .int (by assumption) | assumption
    · simp at hj; subst hj; refine .agg rfl (fun j v h => ?_) (fun j v h => ?_) <;> rcases j with _ | _ | _ | j <;> simp at h <;> subst h <;> first | rfl | exact .bool | exact .int (by assumption) | assumption
    · simp at hj; subst hj; exact .int hk3
    · simp at hj; subst hj; exact .int hk4
    · simp at hj; subst hj; exact .int hk5
    · simp at hj; subst hj; exact .int hk6
    · simp at hj
  subst he
  exact ⟨_, rfl, _, _, _, [], _, [], hW', trodAll_mk1 (shut_bool Try.underlying4 _), (trodAll_cons_mk (Below.trod laidW (by kernel_rfl) (of_decide_eq_true (by kernel_rfl)) k0 bel lt0) (trodAll_cons_mk (Below.trod laidW (by kernel_rfl) (of_decide_eq_true (by kernel_rfl)) k1 bel lt1) (trodAll_cons_mk (Below.trod laidW (by kernel_rfl) (of_decide_eq_true (by kernel_rfl)) k2 bel lt2) (trodAll_cons_mk (shut_int Try.underlying3 w3) (trodAll_cons_mk (shut_int Try.underlying3 w4) (trodAll_cons_mk (shut_int Try.underlying3 w5) (trodAll_cons_mk (shut_int Try.underlying3 w6) trodAll_mk0))))))), rfl, bel.frame _, fun h => by cases h⟩

theorem storeTwice_said : Rows.StoreTwiceSaid :=
  OpenClaim.holds_of_wide 7 Try.f7 rfl rfl rfl rfl rfl rfl rfl ⟨rfl, rfl, rfl, rfl, rfl⟩ rfl rfl rfl rfl rfl (by kernel_rfl) Try.func7 (by kernel_rfl)
    (of_decide_eq_true (by kernel_rfl)) (by unfold Func.isWrapper; first | (rw [if_pos (by decide +kernel)]; kernel_rfl) | (rw [if_neg (by decide +kernel)]; exact ⟨rfl, rfl⟩))
    (fun os started H enc _ => storeTwiceLifted os started H enc)
#print axioms storeTwice_said
end Go.Proofs.Ytcdflgfhkohldaa


