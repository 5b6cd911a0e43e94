import Derived.Test.YtaajleciicgoiaaGpC
namespace Go.Proofs.Ytaajleciicgoiaa
open Go Go.Eng Go.Fx Go.Proofs
set_option linter.unusedVariables false
set_option maxHeartbeats 2000000 in
theorem next_vc (gu : Bool) (gh : Int) (gh0 : (-9223372036854775808 : Int) ≤ gh) (gh1 : gh ≤ (9223372036854775807 : Int)) (gp : Int) (gp0 : (-9223372036854775808 : Int) ≤ gp) (gp1 : gp ≤ (9223372036854775807 : Int)) (gc : Int) (gc0 : (-9223372036854775808 : Int) ≤ gc) (gc1 : gc ≤ (9223372036854775807 : Int)) (gl : Int) (gl0 : (0 : Int) ≤ gl) (gl1 : gl ≤ (18446744073709551615 : Int)) (up : Bool) (k : AV → List (Option Blk) → List Blk → Prop) (hk : ∀ (u : Bool) (h p c l e : Int), u = nU gu gh gp gc gl up → h = nH gu gh gp gc gl up → p = nP gu gh gp gc gl up → c = nC gu gh gp gc gl up → l = nL gu gh gp gc gl up → e = gE gu gh gp gc gl → (0 : Int) ≤ h ∧ h ≤ (1048576 : Int) → (0 : Int) ≤ p ∧ p ≤ (1048576 : Int) → (0 : Int) ≤ c ∧ c ≤ (1073741824 : Int) → (0 : Int) ≤ l ∧ l ≤ (18446744073709551615 : Int) → e = (0 : Int) ∨ e = (8 : Int) → k (AV.tup [AV.agg [AV.bool u, AV.int IntKind.i64 h, AV.int IntKind.i64 p, AV.int IntKind.i64 c, AV.int IntKind.u64 l], AV.int IntKind.i64 e]) [] []) :
  (
   ((-9223372036854775808 : Int) ≤ gh) ∧
   (gh ≤ (9223372036854775807 : Int))) ∧
  (
   ((-9223372036854775808 : Int) ≤ gp) ∧
   (gp ≤ (9223372036854775807 : Int))) ∧
  (
   ((-9223372036854775808 : Int) ≤ gc) ∧
   (gc ≤ (9223372036854775807 : Int))) ∧
  (
   ((0 : Int) ≤ gl) ∧
   (gl ≤ (18446744073709551615 : Int))) ∧
  ∀ (e_1 : Int),
  (e_1 = gE gu gh gp gc gl) →
  (e_1 = (0 : Int) ∨ e_1 = (8 : Int)) →
  br (e_1 != (0 : Int))
   ((k (AV.tup [AV.agg [AV.bool false, AV.int IntKind.i64 (0 : Int), AV.int IntKind.i64 (0 : Int), AV.int IntKind.i64 (0 : Int), AV.int IntKind.u64 (0 : Int)], AV.int IntKind.i64 e_1]) [] []))
   (∀ (n4 : Int),
    (n4 = gl) →
    ((0 : Int) ≤ n4 ∧ n4 ≤ (18446744073709551615 : Int)) →
    ((0 : Int) ≤ (1 : Int)) ∧
    ∀ (n7 : Int),
    (n7 = IntKind.u64.wrap (n4 * (2 : Int) ^ min (Int.toNat (1 : Int)) IntKind.u64.bits)) →
    ((0 : Int) ≤ n7 ∧ n7 ≤ (18446744073709551615 : Int)) →
    br (!up)
     (∀ (n10 : Int),
      (n10 = gp) →
      ((-9223372036854775808 : Int) ≤ n10 ∧ n10 ≤ (9223372036854775807 : Int)) →
      ∀ (n13 : Int),
      (n13 = IntKind.i64.wrap (n10 + (1 : Int))) →
      ((-9223372036854775808 : Int) ≤ n13 ∧ n13 ≤ (9223372036854775807 : Int)) →
      ∀ (n16 : Int),
      (n16 = min n13 (1048576 : Int)) →
      ((-9223372036854775808 : Int) ≤ n16 ∧ n16 ≤ (9223372036854775807 : Int)) →
      (k (AV.tup [AV.agg [AV.bool false, AV.int IntKind.i64 (0 : Int), AV.int IntKind.i64 n16, AV.int IntKind.i64 gc, AV.int IntKind.u64 n7], AV.int IntKind.i64 (0 : Int)]) [] []))
     (br (!gu)
       (∀ (n19 : Int),
        (n19 = gc) →
        ((-9223372036854775808 : Int) ≤ n19 ∧ n19 ≤ (9223372036854775807 : Int)) →
        ∀ (n22 : Int),
        (n22 = IntKind.i64.wrap (n19 + (1 : Int))) →
        ((-9223372036854775808 : Int) ≤ n22 ∧ n22 ≤ (9223372036854775807 : Int)) →
        ∀ (n25 : Int),
        (n25 = min n22 (1073741824 : Int)) →
        ((-9223372036854775808 : Int) ≤ n25 ∧ n25 ≤ (9223372036854775807 : Int)) →
        ∀ (n28 : Int),
        (n28 = gh) →
        ((-9223372036854775808 : Int) ≤ n28 ∧ n28 ≤ (9223372036854775807 : Int)) →
        ∀ (n31 : Int),
        (n31 = IntKind.i64.wrap (n28 + (1 : Int))) →
        ((-9223372036854775808 : Int) ≤ n31 ∧ n31 ≤ (9223372036854775807 : Int)) →
        ∀ (n34 : Int),
        (n34 = min n31 (1048576 : Int)) →
        ((-9223372036854775808 : Int) ≤ n34 ∧ n34 ≤ (9223372036854775807 : Int)) →
        ∀ (n37 : Int),
        (n37 = n7) →
        ((0 : Int) ≤ n37 ∧ n37 ≤ (18446744073709551615 : Int)) →
        ∀ (n40 : Int),
        (n40 = bits BinOp.or IntKind.u64 n37 (1 : Int)) →
        ((0 : Int) ≤ n40 ∧ n40 ≤ (18446744073709551615 : Int)) →
        (k (AV.tup [AV.agg [AV.bool true, AV.int IntKind.i64 n34, AV.int IntKind.i64 (0 : Int), AV.int IntKind.i64 n25, AV.int IntKind.u64 n40], AV.int IntKind.i64 (0 : Int)]) [] []))
       (∀ (n43 : Int),
        (n43 = gh) →
        ((-9223372036854775808 : Int) ≤ n43 ∧ n43 ≤ (9223372036854775807 : Int)) →
        ∀ (n46 : Int),
        (n46 = IntKind.i64.wrap (n43 + (1 : Int))) →
        ((-9223372036854775808 : Int) ≤ n46 ∧ n46 ≤ (9223372036854775807 : Int)) →
        ∀ (n49 : Int),
        (n49 = min n46 (1048576 : Int)) →
        ((-9223372036854775808 : Int) ≤ n49 ∧ n49 ≤ (9223372036854775807 : Int)) →
        ∀ (n52 : Int),
        (n52 = n7) →
        ((0 : Int) ≤ n52 ∧ n52 ≤ (18446744073709551615 : Int)) →
        ∀ (n55 : Int),
        (n55 = bits BinOp.or IntKind.u64 n52 (1 : Int)) →
        ((0 : Int) ≤ n55 ∧ n55 ≤ (18446744073709551615 : Int)) →
        (k (AV.tup [AV.agg [AV.bool true, AV.int IntKind.i64 n49, AV.int IntKind.i64 (0 : Int), AV.int IntKind.i64 gc, AV.int IntKind.u64 n55], AV.int IntKind.i64 (0 : Int)]) [] [])))) := by
  refine ⟨by exact ⟨by assumption, by assumption⟩, ?_⟩ -- (-9223372036854775808 : Int) ≤ gh ∧ gh ≤ (9223372036854775807 : Int)
  refine ⟨by exact ⟨by assumption, by assumption⟩, ?_⟩ -- (-9223372036854775808 : Int) ≤ gp ∧ gp ≤ (9223372036854775807 : Int)
  refine ⟨by exact ⟨by assumption, by assumption⟩, ?_⟩ -- (-9223372036854775808 : Int) ≤ gc ∧ gc ≤ (9223372036854775807 : Int)
  refine ⟨by exact ⟨by assumption, by assumption⟩, ?_⟩ -- (0 : Int) ≤ gl ∧ gl ≤ (18446744073709551615 : Int)
  intro e_1
  intro h1 -- e_1 = gE gu gh gp gc gl
  intro h2 -- e_1 = (0 : Int) ∨ e_1 = (8 : Int)
  refine br_intro (fun c3 => ?_) (fun c3 => ?_) -- e_1 != (0 : Int)
  · -- yes
    simp at c3 -- ¬e_1 = (0 : Int)
    -- k (AV.tup [AV.agg [AV.bool false, AV.int IntKind.i64 (0 : Int), AV.int IntKind.i64 (0 : Int), AV.int IntKind.i64 (0 : Int), AV.int IntKind.u64 (0 : Int)], AV.int IntKind.i64 e_1]) [] []
    have nb := next_bad up (by rw [← h1]; exact c3)
    exact hk _ _ _ _ _ _ nb.1.symm nb.2.1.symm nb.2.2.1.symm nb.2.2.2.1.symm nb.2.2.2.2.1.symm h1 (by omega) (by omega) (by omega) (by omega) h2
  · -- no
    simp at c3 -- e_1 = (0 : Int)
    intro n4
    intro q4 -- n4 = gl
    intro ⟨l4, u4⟩ -- (0 : Int) ≤ n4 ∧ n4 ≤ (18446744073709551615 : Int)
    refine ⟨by first | omega | (dsimp only; omega), ?_⟩ -- (0 : Int) ≤ (1 : Int)
    intro n7
    intro q7 -- n7 = IntKind.u64.wrap (n4 * (2 : Int) ^ min (Int.toNat (1 : Int)) IntKind.u64.bits)
    rw [show (2 : Int) ^ min (Int.toNat (1 : Int)) IntKind.u64.bits = 2 from rfl] at q7
    rw [IntKind.wrap_u64] at q7
    intro ⟨l7, u7⟩ -- (0 : Int) ≤ n7 ∧ n7 ≤ (18446744073709551615 : Int)
    refine br_intro (fun c4 => ?_) (fun c4 => ?_) -- !up
    · -- yes
      simp at c4 -- up = false
      intro n10
      intro q10 -- n10 = gp
      intro ⟨l10, u10⟩ -- (-9223372036854775808 : Int) ≤ n10 ∧ n10 ≤ (9223372036854775807 : Int)
      intro n13
      intro q13 -- n13 = IntKind.i64.wrap (n10 + (1 : Int))
      rw [IntKind.wrap_i64] at q13
      intro ⟨l13, u13⟩ -- (-9223372036854775808 : Int) ≤ n13 ∧ n13 ≤ (9223372036854775807 : Int)
      intro n16
      intro q16 -- n16 = min n13 (1048576 : Int)
      intro ⟨l16, u16⟩ -- (-9223372036854775808 : Int) ≤ n16 ∧ n16 ≤ (9223372036854775807 : Int)
      -- k (AV.tup [AV.agg [AV.bool false, AV.int IntKind.i64 (0 : Int), AV.int IntKind.i64 n16, AV.int IntKind.i64 gc, AV.int IntKind.u64 n7], AV.int IntKind.i64 (0 : Int)]) [] []
      subst c4
      have nd := next_down (h1.symm.trans c3)
      exact hk false 0 n16 gc n7 0 nd.1.symm (by have := nd.2.1; omega) (by have := nd.2.2.1; omega) (by have := nd.2.2.2.1; omega) (by have := nd.2.2.2.2.1; omega) ((h1.symm.trans c3).symm) (by omega) (by omega) (by omega) (by omega) (by omega)
    · -- no
      simp at c4 -- up = true
      refine br_intro (fun c5 => ?_) (fun c5 => ?_) -- !gu
      · -- yes
        simp at c5 -- gu = false
        intro n19
        intro q19 -- n19 = gc
        intro ⟨l19, u19⟩ -- (-9223372036854775808 : Int) ≤ n19 ∧ n19 ≤ (9223372036854775807 : Int)
        intro n22
        intro q22 -- n22 = IntKind.i64.wrap (n19 + (1 : Int))
        rw [IntKind.wrap_i64] at q22
        intro ⟨l22, u22⟩ -- (-9223372036854775808 : Int) ≤ n22 ∧ n22 ≤ (9223372036854775807 : Int)
        intro n25
        intro q25 -- n25 = min n22 (1073741824 : Int)
        intro ⟨l25, u25⟩ -- (-9223372036854775808 : Int) ≤ n25 ∧ n25 ≤ (9223372036854775807 : Int)
        intro n28
        intro q28 -- n28 = gh
        intro ⟨l28, u28⟩ -- (-9223372036854775808 : Int) ≤ n28 ∧ n28 ≤ (9223372036854775807 : Int)
        intro n31
        intro q31 -- n31 = IntKind.i64.wrap (n28 + (1 : Int))
        rw [IntKind.wrap_i64] at q31
        intro ⟨l31, u31⟩ -- (-9223372036854775808 : Int) ≤ n31 ∧ n31 ≤ (9223372036854775807 : Int)
        intro n34
        intro q34 -- n34 = min n31 (1048576 : Int)
        intro ⟨l34, u34⟩ -- (-9223372036854775808 : Int) ≤ n34 ∧ n34 ≤ (9223372036854775807 : Int)
        intro n37
        intro q37 -- n37 = n7
        intro ⟨l37, u37⟩ -- (0 : Int) ≤ n37 ∧ n37 ≤ (18446744073709551615 : Int)
        intro n40
        intro q40 -- n40 = bits BinOp.or IntKind.u64 n37 (1 : Int)
        intro ⟨l40, u40⟩ -- (0 : Int) ≤ n40 ∧ n40 ≤ (18446744073709551615 : Int)
        -- k (AV.tup [AV.agg [AV.bool true, AV.int IntKind.i64 n34, AV.int IntKind.i64 (0 : Int), AV.int IntKind.i64 n25, AV.int IntKind.u64 n40], AV.int IntKind.i64 (0 : Int)]) [] []
        subst c4
        have o := or_one n37 l37 u37 (by omega)
        rw [← q40] at o
        have nd := next_up0 (h1.symm.trans c3) c5
        exact hk true n34 0 n25 n40 0 nd.1.symm (by have := nd.2.1; omega) (by have := nd.2.2.1; omega) (by have := nd.2.2.2.1; omega) (by have := nd.2.2.2.2.1; omega) ((h1.symm.trans c3).symm) (by omega) (by omega) (by omega) (by omega) (by omega)
      · -- no
        simp at c5 -- gu = true
        intro n43
        intro q43 -- n43 = gh
        intro ⟨l43, u43⟩ -- (-9223372036854775808 : Int) ≤ n43 ∧ n43 ≤ (9223372036854775807 : Int)
        intro n46
        intro q46 -- n46 = IntKind.i64.wrap (n43 + (1 : Int))
        rw [IntKind.wrap_i64] at q46
        intro ⟨l46, u46⟩ -- (-9223372036854775808 : Int) ≤ n46 ∧ n46 ≤ (9223372036854775807 : Int)
        intro n49
        intro q49 -- n49 = min n46 (1048576 : Int)
        intro ⟨l49, u49⟩ -- (-9223372036854775808 : Int) ≤ n49 ∧ n49 ≤ (9223372036854775807 : Int)
        intro n52
        intro q52 -- n52 = n7
        intro ⟨l52, u52⟩ -- (0 : Int) ≤ n52 ∧ n52 ≤ (18446744073709551615 : Int)
        intro n55
        intro q55 -- n55 = bits BinOp.or IntKind.u64 n52 (1 : Int)
        intro ⟨l55, u55⟩ -- (0 : Int) ≤ n55 ∧ n55 ≤ (18446744073709551615 : Int)
        -- k (AV.tup [AV.agg [AV.bool true, AV.int IntKind.i64 n49, AV.int IntKind.i64 (0 : Int), AV.int IntKind.i64 gc, AV.int IntKind.u64 n55], AV.int IntKind.i64 (0 : Int)]) [] []
        subst c4
        have o := or_one n52 l52 u52 (by omega)
        rw [← q55] at o
        have nd := next_up1 (h1.symm.trans c3) c5
        exact hk true n49 0 gc n55 0 nd.1.symm (by have := nd.2.1; omega) (by have := nd.2.2.1; omega) (by have := nd.2.2.2.1; omega) (by have := nd.2.2.2.2.1; omega) ((h1.symm.trans c3).symm) (by omega) (by omega) (by omega) (by omega) (by omega)

theorem next_ok : Holds Try.prog 11 nextS := by
  refine fn_sound (env := mkEnv T3) (tab_ok T3_ok) Try.func11 Try.call11 fun args k h => ?_
  match args, h with
  | [.agg [.bool gu, .int .i64 gh, .int .i64 gp, .int .i64 gc, .int .u64 gl], .bool up], h => exact ⟨by kernel_rfl, fun _ _ => none, fun _ _ => none, .cast (by kernel_rfl) (next_vc gu gh h.1.1 h.1.2 gp h.2.1.1 h.2.1.2 gc h.2.2.1.1 h.2.2.1.2 gl h.2.2.2.1.1 h.2.2.2.1.2 up k h.2.2.2.2)⟩
set_option maxHeartbeats 2000000 in
theorem rnext_vc (gu : Bool) (gh : Int) (gh0 : (-9223372036854775808 : Int) ≤ gh) (gh1 : gh ≤ (9223372036854775807 : Int)) (gp : Int) (gp0 : (-9223372036854775808 : Int) ≤ gp) (gp1 : gp ≤ (9223372036854775807 : Int)) (gc : Int) (gc0 : (-9223372036854775808 : Int) ≤ gc) (gc1 : gc ≤ (9223372036854775807 : Int)) (gl : Int) (gl0 : (0 : Int) ≤ gl) (gl1 : gl ≤ (18446744073709551615 : Int)) (up : Bool) (k : AV → List (Option Blk) → List Blk → Prop) (hk : ∀ (u : Bool) (h p c l e : Int), u = nU gu gh gp gc gl up → h = nH gu gh gp gc gl up → p = nP gu gh gp gc gl up → c = nC gu gh gp gc gl up → l = nL gu gh gp gc gl up → e = gE gu gh gp gc gl → (0 : Int) ≤ h ∧ h ≤ (1048576 : Int) → (0 : Int) ≤ p ∧ p ≤ (1048576 : Int) → (0 : Int) ≤ c ∧ c ≤ (1073741824 : Int) → (0 : Int) ≤ l ∧ l ≤ (18446744073709551615 : Int) → e = (0 : Int) ∨ e = (8 : Int) → k (AV.tup [AV.agg [AV.bool u, AV.int IntKind.i64 h, AV.int IntKind.i64 p, AV.int IntKind.i64 c, AV.int IntKind.u64 l], AV.int IntKind.i64 e]) [] []) :
  (
   ((-9223372036854775808 : Int) ≤ gh) ∧
   (gh ≤ (9223372036854775807 : Int))) ∧
  (
   ((-9223372036854775808 : Int) ≤ gp) ∧
   (gp ≤ (9223372036854775807 : Int))) ∧
  (
   ((-9223372036854775808 : Int) ≤ gc) ∧
   (gc ≤ (9223372036854775807 : Int))) ∧
  (
   ((0 : Int) ≤ gl) ∧
   (gl ≤ (18446744073709551615 : Int))) ∧
  ∀ (b_1 : Bool),
  (b_1 = true ↔ gE gu gh gp gc gl = (0 : Int)) →
  br (!b_1)
   ((k (AV.tup [AV.agg [AV.bool false, AV.int IntKind.i64 (0 : Int), AV.int IntKind.i64 (0 : Int), AV.int IntKind.i64 (0 : Int), AV.int IntKind.u64 (0 : Int)], AV.int IntKind.i64 (8 : Int)]) [] []))
   (∀ (n3 : Int),
    (n3 = gc) →
    ((-9223372036854775808 : Int) ≤ n3 ∧ n3 ≤ (9223372036854775807 : Int)) →
    ∀ (n6 : Int),
    (n6 = gl) →
    ((0 : Int) ≤ n6 ∧ n6 ≤ (18446744073709551615 : Int)) →
    ∀ (n9 : Int),
    (n9 = IntKind.u64.wrap (n6 * (2 : Int))) →
    ((0 : Int) ≤ n9 ∧ n9 ≤ (18446744073709551615 : Int)) →
    br (up)
     (∀ (n12 : Int),
      (n12 = gh) →
      ((-9223372036854775808 : Int) ≤ n12 ∧ n12 ≤ (9223372036854775807 : Int)) →
      ∀ (n15 : Int),
      (n15 = IntKind.i64.wrap (n12 + (1 : Int))) →
      ((-9223372036854775808 : Int) ≤ n15 ∧ n15 ≤ (9223372036854775807 : Int)) →
      ∀ (n18 : Int),
      (n18 = min n15 (1048576 : Int)) →
      ((-9223372036854775808 : Int) ≤ n18 ∧ n18 ≤ (9223372036854775807 : Int)) →
      ∀ (n21 : Int),
      (n21 = n9) →
      ((0 : Int) ≤ n21 ∧ n21 ≤ (18446744073709551615 : Int)) →
      ∀ (n24 : Int),
      (n24 = IntKind.u64.wrap (n21 + (1 : Int))) →
      ((0 : Int) ≤ n24 ∧ n24 ≤ (18446744073709551615 : Int)) →
      br (!gu)
       (∀ (n27 : Int),
        (n27 = gc) →
        ((-9223372036854775808 : Int) ≤ n27 ∧ n27 ≤ (9223372036854775807 : Int)) →
        ∀ (n30 : Int),
        (n30 = IntKind.i64.wrap (n27 + (1 : Int))) →
        ((-9223372036854775808 : Int) ≤ n30 ∧ n30 ≤ (9223372036854775807 : Int)) →
        ∀ (n33 : Int),
        (n33 = min n30 (1073741824 : Int)) →
        ((-9223372036854775808 : Int) ≤ n33 ∧ n33 ≤ (9223372036854775807 : Int)) →
        (k (AV.tup [AV.agg [AV.bool up, AV.int IntKind.i64 n18, AV.int IntKind.i64 (0 : Int), AV.int IntKind.i64 n33, AV.int IntKind.u64 n24], AV.int IntKind.i64 (0 : Int)]) [] []))
       ((k (AV.tup [AV.agg [AV.bool up, AV.int IntKind.i64 n18, AV.int IntKind.i64 (0 : Int), AV.int IntKind.i64 n3, AV.int IntKind.u64 n24], AV.int IntKind.i64 (0 : Int)]) [] [])))
     (∀ (n36 : Int),
      (n36 = gp) →
      ((-9223372036854775808 : Int) ≤ n36 ∧ n36 ≤ (9223372036854775807 : Int)) →
      ∀ (n39 : Int),
      (n39 = IntKind.i64.wrap (n36 + (1 : Int))) →
      ((-9223372036854775808 : Int) ≤ n39 ∧ n39 ≤ (9223372036854775807 : Int)) →
      ∀ (n42 : Int),
      (n42 = min n39 (1048576 : Int)) →
      ((-9223372036854775808 : Int) ≤ n42 ∧ n42 ≤ (9223372036854775807 : Int)) →
      (k (AV.tup [AV.agg [AV.bool up, AV.int IntKind.i64 (0 : Int), AV.int IntKind.i64 n42, AV.int IntKind.i64 n3, AV.int IntKind.u64 n9], AV.int IntKind.i64 (0 : Int)]) [] []))) := by
  refine ⟨by exact ⟨by assumption, by assumption⟩, ?_⟩ -- (-9223372036854775808 : Int) ≤ gh ∧ gh ≤ (9223372036854775807 : Int)
  refine ⟨by exact ⟨by assumption, by assumption⟩, ?_⟩ -- (-9223372036854775808 : Int) ≤ gp ∧ gp ≤ (9223372036854775807 : Int)
  refine ⟨by exact ⟨by assumption, by assumption⟩, ?_⟩ -- (-9223372036854775808 : Int) ≤ gc ∧ gc ≤ (9223372036854775807 : Int)
  refine ⟨by exact ⟨by assumption, by assumption⟩, ?_⟩ -- (0 : Int) ≤ gl ∧ gl ≤ (18446744073709551615 : Int)
  intro b_1
  intro h1 -- b_1 = true ↔ gE gu gh gp gc gl = (0 : Int)
  refine br_intro (fun c2 => ?_) (fun c2 => ?_) -- !b_1
  · -- yes
    simp at c2 -- b_1 = false
    -- k (AV.tup [AV.agg [AV.bool false, AV.int IntKind.i64 (0 : Int), AV.int IntKind.i64 (0 : Int), AV.int IntKind.i64 (0 : Int), AV.int IntKind.u64 (0 : Int)], AV.int IntKind.i64 (8 : Int)]) [] []
    have nb := next_bad up (fun e => by rw [h1.2 e] at c2; cases c2)
    exact hk _ _ _ _ _ _ nb.1.symm nb.2.1.symm nb.2.2.1.symm nb.2.2.2.1.symm nb.2.2.2.2.1.symm nb.2.2.2.2.2.symm (by omega) (by omega) (by omega) (by omega) (by omega)
  · -- no
    simp at c2 -- b_1 = true
    intro n3
    intro q3 -- n3 = gc
    intro ⟨l3, u3⟩ -- (-9223372036854775808 : Int) ≤ n3 ∧ n3 ≤ (9223372036854775807 : Int)
    intro n6
    intro q6 -- n6 = gl
    intro ⟨l6, u6⟩ -- (0 : Int) ≤ n6 ∧ n6 ≤ (18446744073709551615 : Int)
    intro n9
    intro q9 -- n9 = IntKind.u64.wrap (n6 * (2 : Int))
    rw [IntKind.wrap_u64] at q9
    intro ⟨l9, u9⟩ -- (0 : Int) ≤ n9 ∧ n9 ≤ (18446744073709551615 : Int)
    refine br_intro (fun c3 => ?_) (fun c3 => ?_) -- up
    · -- yes
      intro n12
      intro q12 -- n12 = gh
      intro ⟨l12, u12⟩ -- (-9223372036854775808 : Int) ≤ n12 ∧ n12 ≤ (9223372036854775807 : Int)
      intro n15
      intro q15 -- n15 = IntKind.i64.wrap (n12 + (1 : Int))
      rw [IntKind.wrap_i64] at q15
      intro ⟨l15, u15⟩ -- (-9223372036854775808 : Int) ≤ n15 ∧ n15 ≤ (9223372036854775807 : Int)
      intro n18
      intro q18 -- n18 = min n15 (1048576 : Int)
      intro ⟨l18, u18⟩ -- (-9223372036854775808 : Int) ≤ n18 ∧ n18 ≤ (9223372036854775807 : Int)
      intro n21
      intro q21 -- n21 = n9
      intro ⟨l21, u21⟩ -- (0 : Int) ≤ n21 ∧ n21 ≤ (18446744073709551615 : Int)
      intro n24
      intro q24 -- n24 = IntKind.u64.wrap (n21 + (1 : Int))
      rw [IntKind.wrap_u64] at q24
      intro ⟨l24, u24⟩ -- (0 : Int) ≤ n24 ∧ n24 ≤ (18446744073709551615 : Int)
      refine br_intro (fun c4 => ?_) (fun c4 => ?_) -- !gu
      · -- yes
        simp at c4 -- gu = false
        intro n27
        intro q27 -- n27 = gc
        intro ⟨l27, u27⟩ -- (-9223372036854775808 : Int) ≤ n27 ∧ n27 ≤ (9223372036854775807 : Int)
        intro n30
        intro q30 -- n30 = IntKind.i64.wrap (n27 + (1 : Int))
        rw [IntKind.wrap_i64] at q30
        intro ⟨l30, u30⟩ -- (-9223372036854775808 : Int) ≤ n30 ∧ n30 ≤ (9223372036854775807 : Int)
        intro n33
        intro q33 -- n33 = min n30 (1073741824 : Int)
        intro ⟨l33, u33⟩ -- (-9223372036854775808 : Int) ≤ n33 ∧ n33 ≤ (9223372036854775807 : Int)
        -- k (AV.tup [AV.agg [AV.bool up, AV.int IntKind.i64 n18, AV.int IntKind.i64 (0 : Int), AV.int IntKind.i64 n33, AV.int IntKind.u64 n24], AV.int IntKind.i64 (0 : Int)]) [] []
        subst c3
        have nd := next_up0 (h1.1 c2) c4
        exact hk true n18 0 n33 n24 0 nd.1.symm (by have := nd.2.1; omega) (by have := nd.2.2.1; omega) (by have := nd.2.2.2.1; omega) (by have := nd.2.2.2.2.1; omega) ((h1.1 c2).symm) (by omega) (by omega) (by omega) (by omega) (by omega)
      · -- no
        simp at c4 -- gu = true
        -- k (AV.tup [AV.agg [AV.bool up, AV.int IntKind.i64 n18, AV.int IntKind.i64 (0 : Int), AV.int IntKind.i64 n3, AV.int IntKind.u64 n24], AV.int IntKind.i64 (0 : Int)]) [] []
        subst c3
        have nd := next_up1 (h1.1 c2) c4
        exact hk true n18 0 n3 n24 0 nd.1.symm (by have := nd.2.1; omega) (by have := nd.2.2.1; omega) (by have := nd.2.2.2.1; omega) (by have := nd.2.2.2.2.1; omega) ((h1.1 c2).symm) (by omega) (by omega) (by omega) (by omega) (by omega)
    · -- no
      intro n36
      intro q36 -- n36 = gp
      intro ⟨l36, u36⟩ -- (-9223372036854775808 : Int) ≤ n36 ∧ n36 ≤ (9223372036854775807 : Int)
      intro n39
      intro q39 -- n39 = IntKind.i64.wrap (n36 + (1 : Int))
      rw [IntKind.wrap_i64] at q39
      intro ⟨l39, u39⟩ -- (-9223372036854775808 : Int) ≤ n39 ∧ n39 ≤ (9223372036854775807 : Int)
      intro n42
      intro q42 -- n42 = min n39 (1048576 : Int)
      intro ⟨l42, u42⟩ -- (-9223372036854775808 : Int) ≤ n42 ∧ n42 ≤ (9223372036854775807 : Int)
      -- k (AV.tup [AV.agg [AV.bool up, AV.int IntKind.i64 (0 : Int), AV.int IntKind.i64 n42, AV.int IntKind.i64 n3, AV.int IntKind.u64 n9], AV.int IntKind.i64 (0 : Int)]) [] []
      have c3 : up = false := by simpa using c3
      subst c3
      have nd := next_down (h1.1 c2)
      exact hk false 0 n42 n3 n9 0 nd.1.symm (by have := nd.2.1; omega) (by have := nd.2.2.1; omega) (by have := nd.2.2.2.1; omega) (by have := nd.2.2.2.2.1; omega) ((h1.1 c2).symm) (by omega) (by omega) (by omega) (by omega) (by omega)

theorem rnext_ok : Holds Try.prog 14 nextS := by
  refine fn_sound (env := mkEnv T3) (tab_ok T3_ok) Try.func14 Try.call14 fun args k h => ?_
  match args, h with
  | [.agg [.bool gu, .int .i64 gh, .int .i64 gp, .int .i64 gc, .int .u64 gl], .bool up], h => exact ⟨by kernel_rfl, fun _ _ => none, fun _ _ => none, .cast (by kernel_rfl) (rnext_vc gu gh h.1.1 h.1.2 gp h.2.1.1 h.2.1.2 gc h.2.2.1.1 h.2.2.1.2 gl h.2.2.2.1.1 h.2.2.2.1.2 up k h.2.2.2.2)⟩
set_option maxHeartbeats 2000000 in
theorem past_vc (gu : Bool) (gh : Int) (gh0 : (-9223372036854775808 : Int) ≤ gh) (gh1 : gh ≤ (9223372036854775807 : Int)) (gp : Int) (gp0 : (-9223372036854775808 : Int) ≤ gp) (gp1 : gp ≤ (9223372036854775807 : Int)) (gc : Int) (gc0 : (-9223372036854775808 : Int) ≤ gc) (gc1 : gc ≤ (9223372036854775807 : Int)) (gl : Int) (gl0 : (0 : Int) ≤ gl) (gl1 : gl ≤ (18446744073709551615 : Int)) (w : Int) (w0 : (-9223372036854775808 : Int) ≤ w) (w1 : w ≤ (9223372036854775807 : Int)) (k : AV → List (Option Blk) → List Blk → Prop) (hk : ∀ (b : Bool) (e : Int), b = paV gu gh gp gc gl w → e = paE gu gh gp gc gl w → e = (0 : Int) ∨ e = (2 : Int) ∨ e = (8 : Int) → k (AV.tup [AV.bool b, AV.int IntKind.i64 e]) [] []) :
  (
   ((-9223372036854775808 : Int) ≤ gh) ∧
   (gh ≤ (9223372036854775807 : Int))) ∧
  (
   ((-9223372036854775808 : Int) ≤ gp) ∧
   (gp ≤ (9223372036854775807 : Int))) ∧
  (
   ((-9223372036854775808 : Int) ≤ gc) ∧
   (gc ≤ (9223372036854775807 : Int))) ∧
  (
   ((0 : Int) ≤ gl) ∧
   (gl ≤ (18446744073709551615 : Int))) ∧
  ∀ (e_1 : Int),
  (e_1 = gE gu gh gp gc gl) →
  (e_1 = (0 : Int) ∨ e_1 = (8 : Int)) →
  br (e_1 != (0 : Int))
   ((k (AV.tup [AV.bool false, AV.int IntKind.i64 e_1]) [] []))
   (br (bif decide (w < (0 : Int)) then true else decide (w > (1048576 : Int)))
     ((k (AV.tup [AV.bool false, AV.int IntKind.i64 (2 : Int)]) [] []))
     (∀ (n4 : Int),
      (n4 = gp) →
      (k (AV.tup [AV.bool (bif !gu then decide (n4 ≥ w) else false), AV.int IntKind.i64 (0 : Int)]) [] []))) := by
  refine ⟨by exact ⟨by assumption, by assumption⟩, ?_⟩ -- (-9223372036854775808 : Int) ≤ gh ∧ gh ≤ (9223372036854775807 : Int)
  refine ⟨by exact ⟨by assumption, by assumption⟩, ?_⟩ -- (-9223372036854775808 : Int) ≤ gp ∧ gp ≤ (9223372036854775807 : Int)
  refine ⟨by exact ⟨by assumption, by assumption⟩, ?_⟩ -- (-9223372036854775808 : Int) ≤ gc ∧ gc ≤ (9223372036854775807 : Int)
  refine ⟨by exact ⟨by assumption, by assumption⟩, ?_⟩ -- (0 : Int) ≤ gl ∧ gl ≤ (18446744073709551615 : Int)
  intro e_1
  intro h1 -- e_1 = gE gu gh gp gc gl
  intro h2 -- e_1 = (0 : Int) ∨ e_1 = (8 : Int)
  refine br_intro (fun c3 => ?_) (fun c3 => ?_) -- e_1 != (0 : Int)
  · -- yes
    simp at c3 -- ¬e_1 = (0 : Int)
    -- k (AV.tup [AV.bool false, AV.int IntKind.i64 e_1]) [] []
    have pb := pa_bad (w := w) (by rw [← h1]; exact c3)
    exact hk _ _ pb.1.symm (by omega) (by omega)
  · -- no
    simp at c3 -- e_1 = (0 : Int)
    refine br_intro (fun c4 => ?_) (fun c4 => ?_) -- bif decide (w < (0 : Int)) then true else decide (w > (1048576 : Int))
    · -- yes
      simp at c4 -- w < (0 : Int) ∨ (1048576 : Int) < w
      -- k (AV.tup [AV.bool false, AV.int IntKind.i64 (2 : Int)]) [] []
      have pb := pa_arg (w := w) (h1.symm.trans c3) c4
      exact hk _ _ pb.1.symm pb.2.symm (by omega)
    · -- no
      simp at c4 -- (0 : Int) ≤ w ∧ w ≤ (1048576 : Int)
      intro n4
      intro q4 -- n4 = gp
      -- k (AV.tup [AV.bool (bif !gu then decide (n4 ≥ w) else false), AV.int IntKind.i64 (0 : Int)]) [] []
      have pb := pa_good (w := w) (h1.symm.trans c3) c4
      exact hk _ _ (by rw [q4]; exact pb.1) pb.2.symm (by omega)

theorem past_ok : Holds Try.prog 12 pastS := by
  refine fn_sound (env := mkEnv T3) (tab_ok T3_ok) Try.func12 Try.call12 fun args k h => ?_
  match args, h with
  | [.agg [.bool gu, .int .i64 gh, .int .i64 gp, .int .i64 gc, .int .u64 gl], .int .i64 w], h => exact ⟨by kernel_rfl, fun _ _ => none, fun _ _ => none, .cast (by kernel_rfl) (past_vc gu gh h.1.1 h.1.2 gp h.2.1.1 h.2.1.2 gc h.2.2.1.1 h.2.2.1.2 gl h.2.2.2.1.1 h.2.2.2.1.2 w h.2.2.2.2.1.1 h.2.2.2.2.1.2 k h.2.2.2.2.2)⟩
set_option maxHeartbeats 2000000 in
theorem rpast_vc (gu : Bool) (gh : Int) (gh0 : (-9223372036854775808 : Int) ≤ gh) (gh1 : gh ≤ (9223372036854775807 : Int)) (gp : Int) (gp0 : (-9223372036854775808 : Int) ≤ gp) (gp1 : gp ≤ (9223372036854775807 : Int)) (gc : Int) (gc0 : (-9223372036854775808 : Int) ≤ gc) (gc1 : gc ≤ (9223372036854775807 : Int)) (gl : Int) (gl0 : (0 : Int) ≤ gl) (gl1 : gl ≤ (18446744073709551615 : Int)) (w : Int) (w0 : (-9223372036854775808 : Int) ≤ w) (w1 : w ≤ (9223372036854775807 : Int)) (k : AV → List (Option Blk) → List Blk → Prop) (hk : ∀ (b : Bool) (e : Int), b = paV gu gh gp gc gl w → e = paE gu gh gp gc gl w → e = (0 : Int) ∨ e = (2 : Int) ∨ e = (8 : Int) → k (AV.tup [AV.bool b, AV.int IntKind.i64 e]) [] []) :
  (
   ((-9223372036854775808 : Int) ≤ gh) ∧
   (gh ≤ (9223372036854775807 : Int))) ∧
  (
   ((-9223372036854775808 : Int) ≤ gp) ∧
   (gp ≤ (9223372036854775807 : Int))) ∧
  (
   ((-9223372036854775808 : Int) ≤ gc) ∧
   (gc ≤ (9223372036854775807 : Int))) ∧
  (
   ((0 : Int) ≤ gl) ∧
   (gl ≤ (18446744073709551615 : Int))) ∧
  ∀ (b_1 : Bool),
  (b_1 = true ↔ gE gu gh gp gc gl = (0 : Int)) →
  br (!b_1)
   ((k (AV.tup [AV.bool false, AV.int IntKind.i64 (8 : Int)]) [] []))
   (br (bif decide (w < (0 : Int)) then true else decide (w > (1048576 : Int)))
     ((k (AV.tup [AV.bool false, AV.int IntKind.i64 (2 : Int)]) [] []))
     (∀ (n3 : Int),
      (n3 = gp) →
      (k (AV.tup [AV.bool (bif !gu then decide (n3 ≥ w) else false), AV.int IntKind.i64 (0 : Int)]) [] []))) := by
  refine ⟨by exact ⟨by assumption, by assumption⟩, ?_⟩ -- (-9223372036854775808 : Int) ≤ gh ∧ gh ≤ (9223372036854775807 : Int)
  refine ⟨by exact ⟨by assumption, by assumption⟩, ?_⟩ -- (-9223372036854775808 : Int) ≤ gp ∧ gp ≤ (9223372036854775807 : Int)
  refine ⟨by exact ⟨by assumption, by assumption⟩, ?_⟩ -- (-9223372036854775808 : Int) ≤ gc ∧ gc ≤ (9223372036854775807 : Int)
  refine ⟨by exact ⟨by assumption, by assumption⟩, ?_⟩ -- (0 : Int) ≤ gl ∧ gl ≤ (18446744073709551615 : Int)
  intro b_1
  intro h1 -- b_1 = true ↔ gE gu gh gp gc gl = (0 : Int)
  refine br_intro (fun c2 => ?_) (fun c2 => ?_) -- !b_1
  · -- yes
    simp at c2 -- b_1 = false
    -- k (AV.tup [AV.bool false, AV.int IntKind.i64 (8 : Int)]) [] []
    have pb := pa_bad (w := w) (fun e => by rw [h1.2 e] at c2; cases c2)
    exact hk _ _ pb.1.symm (by omega) (by omega)
  · -- no
    simp at c2 -- b_1 = true
    refine br_intro (fun c3 => ?_) (fun c3 => ?_) -- bif decide (w < (0 : Int)) then true else decide (w > (1048576 : Int))
    · -- yes
      simp at c3 -- w < (0 : Int) ∨ (1048576 : Int) < w
      -- k (AV.tup [AV.bool false, AV.int IntKind.i64 (2 : Int)]) [] []
      have pb := pa_arg (w := w) (h1.1 c2) c3
      exact hk _ _ pb.1.symm pb.2.symm (by omega)
    · -- no
      simp at c3 -- (0 : Int) ≤ w ∧ w ≤ (1048576 : Int)
      intro n3
      intro q3 -- n3 = gp
      -- k (AV.tup [AV.bool (bif !gu then decide (n3 ≥ w) else false), AV.int IntKind.i64 (0 : Int)]) [] []
      have pb := pa_good (w := w) (h1.1 c2) c3
      exact hk _ _ (by rw [q3]; exact pb.1) pb.2.symm (by omega)

theorem rpast_ok : Holds Try.prog 16 pastS := by
  refine fn_sound (env := mkEnv T3) (tab_ok T3_ok) Try.func16 Try.call16 fun args k h => ?_
  match args, h with
  | [.agg [.bool gu, .int .i64 gh, .int .i64 gp, .int .i64 gc, .int .u64 gl], .int .i64 w], h => exact ⟨by kernel_rfl, fun _ _ => none, fun _ _ => none, .cast (by kernel_rfl) (rpast_vc gu gh h.1.1 h.1.2 gp h.2.1.1 h.2.1.2 gc h.2.2.1.1 h.2.2.1.2 gl h.2.2.2.1.1 h.2.2.2.1.2 w h.2.2.2.2.1.1 h.2.2.2.2.1.2 k h.2.2.2.2.2)⟩
set_option maxHeartbeats 2000000 in
theorem share_vc (gu : Bool) (gh : Int) (gh0 : (-9223372036854775808 : Int) ≤ gh) (gh1 : gh ≤ (9223372036854775807 : Int)) (gp : Int) (gp0 : (-9223372036854775808 : Int) ≤ gp) (gp1 : gp ≤ (9223372036854775807 : Int)) (gc : Int) (gc0 : (-9223372036854775808 : Int) ≤ gc) (gc1 : gc ≤ (9223372036854775807 : Int)) (gl : Int) (gl0 : (0 : Int) ≤ gl) (gl1 : gl ≤ (18446744073709551615 : Int)) (w : Int) (w0 : (-9223372036854775808 : Int) ≤ w) (w1 : w ≤ (9223372036854775807 : Int)) (k : AV → List (Option Blk) → List Blk → Prop) (hk : ∀ (v e : Int), v = shV gu gh gp gc gl w → e = shE gu gh gp gc gl w → (0 : Int) ≤ v ∧ v ≤ (65536 : Int) → e = (0 : Int) ∨ e = (2 : Int) ∨ e = (8 : Int) → k (AV.tup [AV.int IntKind.i64 v, AV.int IntKind.i64 e]) [] []) :
  (
   ((-9223372036854775808 : Int) ≤ gh) ∧
   (gh ≤ (9223372036854775807 : Int))) ∧
  (
   ((-9223372036854775808 : Int) ≤ gp) ∧
   (gp ≤ (9223372036854775807 : Int))) ∧
  (
   ((-9223372036854775808 : Int) ≤ gc) ∧
   (gc ≤ (9223372036854775807 : Int))) ∧
  (
   ((0 : Int) ≤ gl) ∧
   (gl ≤ (18446744073709551615 : Int))) ∧
  ∀ (e_1 : Int),
  (e_1 = gE gu gh gp gc gl) →
  (e_1 = (0 : Int) ∨ e_1 = (8 : Int)) →
  br (e_1 != (0 : Int))
   ((k (AV.tup [AV.int IntKind.i64 (0 : Int), AV.int IntKind.i64 e_1]) [] []))
   (br (bif decide (w < (1 : Int)) then true else decide (w > (64 : Int)))
     ((k (AV.tup [AV.int IntKind.i64 (0 : Int), AV.int IntKind.i64 (2 : Int)]) [] []))
     (∀ (n4 : Int),
      (n4 = gl) →
      ((0 : Int) ≤ n4 ∧ n4 ≤ (18446744073709551615 : Int)) →
      ∀ (n7 : Int),
      (n7 = IntKind.i64.wrap ((64 : Int) - w)) →
      ((-9223372036854775808 : Int) ≤ n7 ∧ n7 ≤ (9223372036854775807 : Int)) →
      ((0 : Int) ≤ n7) ∧
      ∀ (n10 : Int),
      (n10 = IntKind.u64.wrap (n4 * (2 : Int) ^ min n7.toNat IntKind.u64.bits)) →
      ((0 : Int) ≤ n10 ∧ n10 ≤ (18446744073709551615 : Int)) →
      (
       ((0 : Int) ≤ n10) ∧
       (n10 ≤ (18446744073709551615 : Int))) ∧
      ∀ (r_13 : Int),
      (r_13 = cnt (64 : Nat) n10) →
      ((0 : Int) ≤ r_13 ∧ r_13 ≤ (64 : Int)) →
      (
       ((-9223372036854775808 : Int) ≤ r_13) ∧
       (r_13 ≤ (9223372036854775807 : Int))) ∧
      ∀ (r_16 : Int),
      (r_16 = ofI r_13) →
      ((-70368744177664 : Int) ≤ r_16 ∧ r_16 ≤ (70368744177664 : Int)) →
      (
       ((-9223372036854775808 : Int) ≤ w) ∧
       (w ≤ (9223372036854775807 : Int))) ∧
      ∀ (r_19 : Int),
      (r_19 = ofI w) →
      ((-70368744177664 : Int) ≤ r_19 ∧ r_19 ≤ (70368744177664 : Int)) →
      (
       ((-9223372036854775808 : Int) ≤ r_16) ∧
       (r_16 ≤ (9223372036854775807 : Int))) ∧
      (
       ((-9223372036854775808 : Int) ≤ r_19) ∧
       (r_19 ≤ (9223372036854775807 : Int))) ∧
      ∀ (q_22 : Int),
      ∀ (e_23 : Int),
      (q_22 = divQ r_16 r_19) →
      (e_23 = divE r_19) →
      ((-70368744177664 : Int) ≤ q_22 ∧ q_22 ≤ (70368744177664 : Int)) →
      (e_23 = (0 : Int) ∨ e_23 = (10 : Int)) →
      (k (AV.tup [AV.int IntKind.i64 q_22, AV.int IntKind.i64 e_23]) [] []))) := by
  refine ⟨by exact ⟨by assumption, by assumption⟩, ?_⟩ -- (-9223372036854775808 : Int) ≤ gh ∧ gh ≤ (9223372036854775807 : Int)
  refine ⟨by exact ⟨by assumption, by assumption⟩, ?_⟩ -- (-9223372036854775808 : Int) ≤ gp ∧ gp ≤ (9223372036854775807 : Int)
  refine ⟨by exact ⟨by assumption, by assumption⟩, ?_⟩ -- (-9223372036854775808 : Int) ≤ gc ∧ gc ≤ (9223372036854775807 : Int)
  refine ⟨by exact ⟨by assumption, by assumption⟩, ?_⟩ -- (0 : Int) ≤ gl ∧ gl ≤ (18446744073709551615 : Int)
  intro e_1
  intro h1 -- e_1 = gE gu gh gp gc gl
  intro h2 -- e_1 = (0 : Int) ∨ e_1 = (8 : Int)
  refine br_intro (fun c3 => ?_) (fun c3 => ?_) -- e_1 != (0 : Int)
  · -- yes
    simp at c3 -- ¬e_1 = (0 : Int)
    -- k (AV.tup [AV.int IntKind.i64 (0 : Int), AV.int IntKind.i64 e_1]) [] []
    have pb := sh_bad (w := w) (by rw [← h1]; exact c3)
    exact hk _ _ pb.1.symm (by omega) (by omega) (by omega)
  · -- no
    simp at c3 -- e_1 = (0 : Int)
    refine br_intro (fun c4 => ?_) (fun c4 => ?_) -- bif decide (w < (1 : Int)) then true else decide (w > (64 : Int))
    · -- yes
      simp at c4 -- w < (1 : Int) ∨ (64 : Int) < w
      -- k (AV.tup [AV.int IntKind.i64 (0 : Int), AV.int IntKind.i64 (2 : Int)]) [] []
      have pb := sh_arg (w := w) (h1.symm.trans c3) c4
      exact hk _ _ pb.1.symm pb.2.symm (by omega) (by omega)
    · -- no
      simp at c4 -- (1 : Int) ≤ w ∧ w ≤ (64 : Int)
      intro n4
      intro q4 -- n4 = gl
      intro ⟨l4, u4⟩ -- (0 : Int) ≤ n4 ∧ n4 ≤ (18446744073709551615 : Int)
      intro n7
      intro q7 -- n7 = IntKind.i64.wrap ((64 : Int) - w)
      rw [IntKind.wrap_i64] at q7
      intro ⟨l7, u7⟩ -- (-9223372036854775808 : Int) ≤ n7 ∧ n7 ≤ (9223372036854775807 : Int)
      refine ⟨by first | omega | (dsimp only; omega), ?_⟩ -- (0 : Int) ≤ n7
      intro n10
      intro q10 -- n10 = IntKind.u64.wrap (n4 * (2 : Int) ^ min n7.toNat IntKind.u64.bits)
      rw [IntKind.wrap_u64] at q10
      intro ⟨l10, u10⟩ -- (0 : Int) ≤ n10 ∧ n10 ≤ (18446744073709551615 : Int)
      refine ⟨by exact ⟨by assumption, by assumption⟩, ?_⟩ -- (0 : Int) ≤ n10 ∧ n10 ≤ (18446744073709551615 : Int)
      intro r_13
      intro h5 -- r_13 = cnt (64 : Nat) n10
      intro ⟨a6, b6⟩ -- (0 : Int) ≤ r_13 ∧ r_13 ≤ (64 : Int)
      refine ⟨by first | omega | (dsimp only; omega), ?_⟩ -- (-9223372036854775808 : Int) ≤ r_13 ∧ r_13 ≤ (9223372036854775807 : Int)
      intro r_16
      intro h7 -- r_16 = ofI r_13
      intro ⟨a8, b8⟩ -- (-70368744177664 : Int) ≤ r_16 ∧ r_16 ≤ (70368744177664 : Int)
      refine ⟨by exact ⟨by assumption, by assumption⟩, ?_⟩ -- (-9223372036854775808 : Int) ≤ w ∧ w ≤ (9223372036854775807 : Int)
      intro r_19
      intro h9 -- r_19 = ofI w
      intro ⟨a10, b10⟩ -- (-70368744177664 : Int) ≤ r_19 ∧ r_19 ≤ (70368744177664 : Int)
      refine ⟨by first | omega | (dsimp only; omega), ?_⟩ -- (-9223372036854775808 : Int) ≤ r_16 ∧ r_16 ≤ (9223372036854775807 : Int)
      refine ⟨by first | omega | (dsimp only; omega), ?_⟩ -- (-9223372036854775808 : Int) ≤ r_19 ∧ r_19 ≤ (9223372036854775807 : Int)
      intro q_22
      intro e_23
      intro h11 -- q_22 = divQ r_16 r_19
      intro h12 -- e_23 = divE r_19
      intro ⟨a13, b13⟩ -- (-70368744177664 : Int) ≤ q_22 ∧ q_22 ≤ (70368744177664 : Int)
      intro h14 -- e_23 = (0 : Int) ∨ e_23 = (10 : Int)
      -- k (AV.tup [AV.int IntKind.i64 q_22, AV.int IntKind.i64 e_23]) [] []
      have cc : r_13 = cnt w.toNat gl := by
        rw [h5, q10, q4, show min n7.toNat IntKind.u64.bits = (64 - w).toNat by simp only [IntKind.bits]; omega]
        exact cnt_top w gl c4 (by omega)
      have sv := share_val (h1.symm.trans c3) c4 (by assumption) cc
      rw [← h7, ← h9, ← h11, ← h12] at sv
      exact hk _ _ sv.1 sv.2.1 (by omega) (by omega)

theorem share_ok : Holds Try.prog 13 shareS := by
  refine fn_sound (env := mkEnv T3) (tab_ok T3_ok) Try.func13 Try.call13 fun args k h => ?_
  match args, h with
  | [.agg [.bool gu, .int .i64 gh, .int .i64 gp, .int .i64 gc, .int .u64 gl], .int .i64 w], h => exact ⟨by kernel_rfl, fun _ _ => none, fun _ _ => none, .cast (by kernel_rfl) (share_vc gu gh h.1.1 h.1.2 gp h.2.1.1 h.2.1.2 gc h.2.2.1.1 h.2.2.1.2 gl h.2.2.2.1.1 h.2.2.2.1.2 w h.2.2.2.2.1.1 h.2.2.2.2.1.2 k h.2.2.2.2.2)⟩
set_option maxHeartbeats 2000000 in
theorem rshare_vc (gu : Bool) (gh : Int) (gh0 : (-9223372036854775808 : Int) ≤ gh) (gh1 : gh ≤ (9223372036854775807 : Int)) (gp : Int) (gp0 : (-9223372036854775808 : Int) ≤ gp) (gp1 : gp ≤ (9223372036854775807 : Int)) (gc : Int) (gc0 : (-9223372036854775808 : Int) ≤ gc) (gc1 : gc ≤ (9223372036854775807 : Int)) (gl : Int) (gl0 : (0 : Int) ≤ gl) (gl1 : gl ≤ (18446744073709551615 : Int)) (w : Int) (w0 : (-9223372036854775808 : Int) ≤ w) (w1 : w ≤ (9223372036854775807 : Int)) (k : AV → List (Option Blk) → List Blk → Prop) (hk : ∀ (v e : Int), v = shV gu gh gp gc gl w → e = shE gu gh gp gc gl w → (0 : Int) ≤ v ∧ v ≤ (65536 : Int) → e = (0 : Int) ∨ e = (2 : Int) ∨ e = (8 : Int) → k (AV.tup [AV.int IntKind.i64 v, AV.int IntKind.i64 e]) [] []) :
  (
   ((-9223372036854775808 : Int) ≤ gh) ∧
   (gh ≤ (9223372036854775807 : Int))) ∧
  (
   ((-9223372036854775808 : Int) ≤ gp) ∧
   (gp ≤ (9223372036854775807 : Int))) ∧
  (
   ((-9223372036854775808 : Int) ≤ gc) ∧
   (gc ≤ (9223372036854775807 : Int))) ∧
  (
   ((0 : Int) ≤ gl) ∧
   (gl ≤ (18446744073709551615 : Int))) ∧
  ∀ (b_1 : Bool),
  (b_1 = true ↔ gE gu gh gp gc gl = (0 : Int)) →
  br (!b_1)
   ((k (AV.tup [AV.int IntKind.i64 (0 : Int), AV.int IntKind.i64 (8 : Int)]) [] []))
   (br (bif decide (w < (1 : Int)) then true else decide (w > (64 : Int)))
     ((k (AV.tup [AV.int IntKind.i64 (0 : Int), AV.int IntKind.i64 (2 : Int)]) [] []))
     (∀ (n3 : Int),
      (n3 = gl) →
      ((0 : Int) ≤ n3 ∧ n3 ≤ (18446744073709551615 : Int)) →
      (
       ∃ (v : Int × Int × Int),
       (w = w) ∧
       ((0 : Int) = v.fst) ∧
       (n3 = v.snd.fst) ∧
       ((0 : Int) = v.snd.snd) ∧
       (
        ((0 : Int) ≤ v.snd.snd) ∧
        (v.snd.snd ≤ w)) ∧
       (
        ((0 : Int) ≤ v.snd.fst) ∧
        (v.snd.fst ≤ (18446744073709551615 : Int))) ∧
       (
        ((0 : Int) ≤ v.fst) ∧
        (v.fst ≤ v.snd.snd)) ∧
       (v.fst + cnt (w - v.snd.snd).toNat v.snd.fst = cnt w.toNat gl)) ∧
      ∀ (v_6 : Int × Int × Int),
      (((0 : Int) ≤ v_6.snd.snd ∧ v_6.snd.snd ≤ w) ∧ ((0 : Int) ≤ v_6.snd.fst ∧ v_6.snd.fst ≤ (18446744073709551615 : Int)) ∧ ((0 : Int) ≤ v_6.fst ∧ v_6.fst ≤ v_6.snd.snd) ∧ v_6.fst + cnt (w - v_6.snd.snd).toNat v_6.snd.fst = cnt w.toNat gl) →
      br (decide (v_6.snd.snd < w))
       (((2 : Int) ≠ (0 : Int)) ∧
        ∀ (n8 : Int),
        (n8 = v_6.snd.fst.tmod (2 : Int)) →
        ((0 : Int) ≤ n8 ∧ n8 ≤ (18446744073709551615 : Int)) →
        br (n8 == (1 : Int))
         (∀ (n11 : Int),
          (n11 = IntKind.i64.wrap (v_6.fst + (1 : Int))) →
          ((-9223372036854775808 : Int) ≤ n11 ∧ n11 ≤ (9223372036854775807 : Int)) →
          ((2 : Int) ≠ (0 : Int)) ∧
          ∀ (n14 : Int),
          (n14 = IntKind.u64.wrap (v_6.snd.fst.tdiv (2 : Int))) →
          ((0 : Int) ≤ n14 ∧ n14 ≤ (18446744073709551615 : Int)) →
          ∀ (n17 : Int),
          (n17 = IntKind.i64.wrap (v_6.snd.snd + (1 : Int))) →
          ((-9223372036854775808 : Int) ≤ n17 ∧ n17 ≤ (9223372036854775807 : Int)) →
          ∃ (v' : Int × Int × Int),
          (w = w) ∧
          (n11 = v'.fst) ∧
          (n14 = v'.snd.fst) ∧
          (n17 = v'.snd.snd) ∧
          (
           (
            ((0 : Int) ≤ v'.snd.snd) ∧
            (v'.snd.snd ≤ w)) ∧
           (
            ((0 : Int) ≤ v'.snd.fst) ∧
            (v'.snd.fst ≤ (18446744073709551615 : Int))) ∧
           (
            ((0 : Int) ≤ v'.fst) ∧
            (v'.fst ≤ v'.snd.snd)) ∧
           (v'.fst + cnt (w - v'.snd.snd).toNat v'.snd.fst = cnt w.toNat gl)) ∧
          ((w - v'.snd.snd).toNat < (w - v_6.snd.snd).toNat))
         (((2 : Int) ≠ (0 : Int)) ∧
          ∀ (n20 : Int),
          (n20 = IntKind.u64.wrap (v_6.snd.fst.tdiv (2 : Int))) →
          ((0 : Int) ≤ n20 ∧ n20 ≤ (18446744073709551615 : Int)) →
          ∀ (n23 : Int),
          (n23 = IntKind.i64.wrap (v_6.snd.snd + (1 : Int))) →
          ((-9223372036854775808 : Int) ≤ n23 ∧ n23 ≤ (9223372036854775807 : Int)) →
          ∃ (v' : Int × Int × Int),
          (w = w) ∧
          (v_6.fst = v'.fst) ∧
          (n20 = v'.snd.fst) ∧
          (n23 = v'.snd.snd) ∧
          (
           (
            ((0 : Int) ≤ v'.snd.snd) ∧
            (v'.snd.snd ≤ w)) ∧
           (
            ((0 : Int) ≤ v'.snd.fst) ∧
            (v'.snd.fst ≤ (18446744073709551615 : Int))) ∧
           (
            ((0 : Int) ≤ v'.fst) ∧
            (v'.fst ≤ v'.snd.snd)) ∧
           (v'.fst + cnt (w - v'.snd.snd).toNat v'.snd.fst = cnt w.toNat gl)) ∧
          ((w - v'.snd.snd).toNat < (w - v_6.snd.snd).toNat)))
       ((
         ((-9223372036854775808 : Int) ≤ v_6.fst) ∧
         (v_6.fst ≤ (9223372036854775807 : Int))) ∧
        ∀ (r_26 : Int),
        (r_26 = ofI v_6.fst) →
        ((-70368744177664 : Int) ≤ r_26 ∧ r_26 ≤ (70368744177664 : Int)) →
        (
         ((-9223372036854775808 : Int) ≤ w) ∧
         (w ≤ (9223372036854775807 : Int))) ∧
        ∀ (r_29 : Int),
        (r_29 = ofI w) →
        ((-70368744177664 : Int) ≤ r_29 ∧ r_29 ≤ (70368744177664 : Int)) →
        (
         ((-9223372036854775808 : Int) ≤ r_26) ∧
         (r_26 ≤ (9223372036854775807 : Int))) ∧
        (
         ((-9223372036854775808 : Int) ≤ r_29) ∧
         (r_29 ≤ (9223372036854775807 : Int))) ∧
        ∀ (q_32 : Int),
        ∀ (e_33 : Int),
        (q_32 = divQ r_26 r_29) →
        (e_33 = divE r_29) →
        ((-70368744177664 : Int) ≤ q_32 ∧ q_32 ≤ (70368744177664 : Int)) →
        (e_33 = (0 : Int) ∨ e_33 = (10 : Int)) →
        (k (AV.tup [AV.int IntKind.i64 q_32, AV.int IntKind.i64 (0 : Int)]) [] [])))) := by
  refine ⟨by exact ⟨by assumption, by assumption⟩, ?_⟩ -- (-9223372036854775808 : Int) ≤ gh ∧ gh ≤ (9223372036854775807 : Int)
  refine ⟨by exact ⟨by assumption, by assumption⟩, ?_⟩ -- (-9223372036854775808 : Int) ≤ gp ∧ gp ≤ (9223372036854775807 : Int)
  refine ⟨by exact ⟨by assumption, by assumption⟩, ?_⟩ -- (-9223372036854775808 : Int) ≤ gc ∧ gc ≤ (9223372036854775807 : Int)
  refine ⟨by exact ⟨by assumption, by assumption⟩, ?_⟩ -- (0 : Int) ≤ gl ∧ gl ≤ (18446744073709551615 : Int)
  intro b_1
  intro h1 -- b_1 = true ↔ gE gu gh gp gc gl = (0 : Int)
  refine br_intro (fun c2 => ?_) (fun c2 => ?_) -- !b_1
  · -- yes
    simp at c2 -- b_1 = false
    -- k (AV.tup [AV.int IntKind.i64 (0 : Int), AV.int IntKind.i64 (8 : Int)]) [] []
    have pb := sh_bad (w := w) (fun e => by rw [h1.2 e] at c2; cases c2)
    exact hk _ _ pb.1.symm (by omega) (by omega) (by omega)
  · -- no
    simp at c2 -- b_1 = true
    refine br_intro (fun c3 => ?_) (fun c3 => ?_) -- bif decide (w < (1 : Int)) then true else decide (w > (64 : Int))
    · -- yes
      simp at c3 -- w < (1 : Int) ∨ (64 : Int) < w
      -- k (AV.tup [AV.int IntKind.i64 (0 : Int), AV.int IntKind.i64 (2 : Int)]) [] []
      have pb := sh_arg (w := w) (h1.1 c2) c3
      exact hk _ _ pb.1.symm pb.2.symm (by omega) (by omega)
    · -- no
      simp at c3 -- (1 : Int) ≤ w ∧ w ≤ (64 : Int)
      intro n3
      intro q3 -- n3 = gl
      intro ⟨l3, u3⟩ -- (0 : Int) ≤ n3 ∧ n3 ≤ (18446744073709551615 : Int)
      refine ⟨?_, ?_⟩
      · -- left
        refine ⟨((0 : Int), n3, (0 : Int)), ?_⟩
        refine ⟨by first | with_reducible rfl | rfl, ?_⟩ -- w = w
        refine ⟨by first | with_reducible rfl | rfl, ?_⟩ -- (0 : Int) = (0 : Int)
        refine ⟨by first | with_reducible rfl | rfl, ?_⟩ -- n3 = n3
        refine ⟨by first | with_reducible rfl | rfl, ?_⟩ -- (0 : Int) = (0 : Int)
        refine ⟨by first | omega | (dsimp only; omega), ?_⟩ -- (0 : Int) ≤ (0 : Int) ∧ (0 : Int) ≤ w
        refine ⟨by exact ⟨by assumption, by assumption⟩, ?_⟩ -- (0 : Int) ≤ n3 ∧ n3 ≤ (18446744073709551615 : Int)
        refine ⟨by first | omega | (dsimp only; omega), ?_⟩ -- (0 : Int) ≤ (0 : Int) ∧ (0 : Int) ≤ (0 : Int)
        -- (0 : Int) + cnt (w - (0 : Int)).toNat n3 = cnt w.toNat gl
        rw [q3, Int.sub_zero]; exact Int.zero_add _
      intro v_6
      intro h4 -- ((0 : Int) ≤ v_6.snd.snd ∧ v_6.snd.snd ≤ w) ∧ ((0 : Int) ≤ v_6.snd.fst ∧ v_6.snd.fst ≤ (18446744073709551615 : Int)) ∧ ((0 : Int) ≤ v_6.fst ∧ v_6.fst ≤ v_6.snd.snd) ∧ v_6.fst + cnt (w - v_6.snd.snd).toNat v_6.snd.fst = cnt w.toNat gl
      refine brd (fun c5 => ?_) (fun c5 => ?_) -- decide (v_6.snd.snd < w)
      · -- yes
        refine ⟨by first | omega | (dsimp only; omega), ?_⟩ -- (2 : Int) ≠ (0 : Int)
        intro n8
        intro q8 -- n8 = v_6.snd.fst.tmod (2 : Int)
        rw [Int.tmod_eq_emod_of_nonneg (by omega)] at q8
        intro ⟨l8, u8⟩ -- (0 : Int) ≤ n8 ∧ n8 ≤ (18446744073709551615 : Int)
        refine br_intro (fun c6 => ?_) (fun c6 => ?_) -- n8 == (1 : Int)
        · -- yes
          simp at c6 -- n8 = (1 : Int)
          intro n11
          intro q11 -- n11 = IntKind.i64.wrap (v_6.fst + (1 : Int))
          rw [IntKind.wrap_i64] at q11
          intro ⟨l11, u11⟩ -- (-9223372036854775808 : Int) ≤ n11 ∧ n11 ≤ (9223372036854775807 : Int)
          refine ⟨by first | omega | (dsimp only; omega), ?_⟩ -- (2 : Int) ≠ (0 : Int)
          intro n14
          intro q14 -- n14 = IntKind.u64.wrap (v_6.snd.fst.tdiv (2 : Int))
          rw [Int.tdiv_eq_ediv_of_nonneg (by omega)] at q14
          rw [IntKind.wrap_u64] at q14
          intro ⟨l14, u14⟩ -- (0 : Int) ≤ n14 ∧ n14 ≤ (18446744073709551615 : Int)
          intro n17
          intro q17 -- n17 = IntKind.i64.wrap (v_6.snd.snd + (1 : Int))
          rw [IntKind.wrap_i64] at q17
          intro ⟨l17, u17⟩ -- (-9223372036854775808 : Int) ≤ n17 ∧ n17 ≤ (9223372036854775807 : Int)
          refine ⟨(n11, n14, n17), ?_⟩
          refine ⟨by first | with_reducible rfl | rfl, ?_⟩ -- w = w
          refine ⟨by first | with_reducible rfl | rfl, ?_⟩ -- n11 = n11
          refine ⟨by first | with_reducible rfl | rfl, ?_⟩ -- n14 = n14
          refine ⟨by first | with_reducible rfl | rfl, ?_⟩ -- n17 = n17
          refine ⟨?_, ?_⟩
          · -- left
            refine ⟨by first | omega | (dsimp only; omega), ?_⟩ -- (0 : Int) ≤ n17 ∧ n17 ≤ w
            refine ⟨by exact ⟨by assumption, by assumption⟩, ?_⟩ -- (0 : Int) ≤ n14 ∧ n14 ≤ (18446744073709551615 : Int)
            refine ⟨by first | omega | (dsimp only; omega), ?_⟩ -- (0 : Int) ≤ n11 ∧ n11 ≤ n17
            -- n11 + cnt (w - n17).toNat n14 = cnt w.toNat gl
            have cn := cnt_next (w := w) (i := v_6.snd.snd) (j := n17) (y := v_6.snd.fst) (z := n14) c5 (by omega) (by omega)
            dsimp only
            omega
          exact by show (w - n17).toNat < (w - v_6.snd.snd).toNat; omega -- (w - n17).toNat < (w - v_6.snd.snd).toNat
        · -- no
          simp at c6 -- ¬n8 = (1 : Int)
          refine ⟨by first | omega | (dsimp only; omega), ?_⟩ -- (2 : Int) ≠ (0 : Int)
          intro n20
          intro q20 -- n20 = IntKind.u64.wrap (v_6.snd.fst.tdiv (2 : Int))
          rw [Int.tdiv_eq_ediv_of_nonneg (by omega)] at q20
          rw [IntKind.wrap_u64] at q20
          intro ⟨l20, u20⟩ -- (0 : Int) ≤ n20 ∧ n20 ≤ (18446744073709551615 : Int)
          intro n23
          intro q23 -- n23 = IntKind.i64.wrap (v_6.snd.snd + (1 : Int))
          rw [IntKind.wrap_i64] at q23
          intro ⟨l23, u23⟩ -- (-9223372036854775808 : Int) ≤ n23 ∧ n23 ≤ (9223372036854775807 : Int)
          refine ⟨(v_6.fst, n20, n23), ?_⟩
          refine ⟨by first | with_reducible rfl | rfl, ?_⟩ -- w = w
          refine ⟨by first | with_reducible rfl | rfl, ?_⟩ -- v_6.fst = v_6.fst
          refine ⟨by first | with_reducible rfl | rfl, ?_⟩ -- n20 = n20
          refine ⟨by first | with_reducible rfl | rfl, ?_⟩ -- n23 = n23
          refine ⟨?_, ?_⟩
          · -- left
            refine ⟨by first | omega | (dsimp only; omega), ?_⟩ -- (0 : Int) ≤ n23 ∧ n23 ≤ w
            refine ⟨by exact ⟨by assumption, by assumption⟩, ?_⟩ -- (0 : Int) ≤ n20 ∧ n20 ≤ (18446744073709551615 : Int)
            refine ⟨by first | omega | (dsimp only; omega), ?_⟩ -- (0 : Int) ≤ v_6.fst ∧ v_6.fst ≤ n23
            -- v_6.fst + cnt (w - n23).toNat n20 = cnt w.toNat gl
            have cn := cnt_next (w := w) (i := v_6.snd.snd) (j := n23) (y := v_6.snd.fst) (z := n20) c5 (by omega) (by omega)
            dsimp only
            omega
          exact by show (w - n23).toNat < (w - v_6.snd.snd).toNat; omega -- (w - n23).toNat < (w - v_6.snd.snd).toNat
      · -- no
        refine ⟨by first | omega | (dsimp only; omega), ?_⟩ -- (-9223372036854775808 : Int) ≤ v_6.fst ∧ v_6.fst ≤ (9223372036854775807 : Int)
        intro r_26
        intro h7 -- r_26 = ofI v_6.fst
        intro ⟨a8, b8⟩ -- (-70368744177664 : Int) ≤ r_26 ∧ r_26 ≤ (70368744177664 : Int)
        refine ⟨by exact ⟨by assumption, by assumption⟩, ?_⟩ -- (-9223372036854775808 : Int) ≤ w ∧ w ≤ (9223372036854775807 : Int)
        intro r_29
        intro h9 -- r_29 = ofI w
        intro ⟨a10, b10⟩ -- (-70368744177664 : Int) ≤ r_29 ∧ r_29 ≤ (70368744177664 : Int)
        refine ⟨by first | omega | (dsimp only; omega), ?_⟩ -- (-9223372036854775808 : Int) ≤ r_26 ∧ r_26 ≤ (9223372036854775807 : Int)
        refine ⟨by first | omega | (dsimp only; omega), ?_⟩ -- (-9223372036854775808 : Int) ≤ r_29 ∧ r_29 ≤ (9223372036854775807 : Int)
        intro q_32
        intro e_33
        intro h11 -- q_32 = divQ r_26 r_29
        intro h12 -- e_33 = divE r_29
        intro ⟨a13, b13⟩ -- (-70368744177664 : Int) ≤ q_32 ∧ q_32 ≤ (70368744177664 : Int)
        intro h14 -- e_33 = (0 : Int) ∨ e_33 = (10 : Int)
        -- k (AV.tup [AV.int IntKind.i64 q_32, AV.int IntKind.i64 (0 : Int)]) [] []
        have cc : v_6.fst = cnt w.toNat gl := by
          have := h4.2.2.2
          rw [show (w - v_6.snd.snd).toNat = 0 by omega] at this
          simpa [cnt] using this
        have sv := share_val (h1.1 c2) c3 (by assumption) cc
        rw [← h7, ← h9, ← h11, ← h12] at sv
        exact hk _ _ sv.1 sv.2.2.2.symm (by omega) (by omega)

theorem rshare_ok : Holds Try.prog 15 shareS := by
  refine fn_sound (env := mkEnv T3) (tab_ok T3_ok) Try.func15 Try.call15 fun args k h => ?_
  match args, h with
  | [.agg [.bool gu, .int .i64 gh, .int .i64 gp, .int .i64 gc, .int .u64 gl], .int .i64 w], h => exact ⟨by kernel_rfl, rshareLoops w gl, fun _ _ => none, .cast (by kernel_rfl) (rshare_vc gu gh h.1.1 h.1.2 gp h.2.1.1 h.2.1.2 gc h.2.2.1.1 h.2.2.1.2 gl h.2.2.2.1.1 h.2.2.2.1.2 w h.2.2.2.2.1.1 h.2.2.2.2.1.2 k h.2.2.2.2.2)⟩
theorem T4_ok : TabOk Try.prog T4 := ⟨next_ok, rnext_ok, past_ok, rpast_ok, share_ok, rshare_ok, trivial⟩
end Go.Proofs.Ytaajleciicgoiaa

