/- WellTicks, WellMore: a link's last ticks go on, and tell how good it is, as is said; what comes never makes it less; bounds stand in order. For every input; no conditions. -/
import Derived.Test.YtdhdbdaceklkhaaWlC
import Derived.Test.YtdhdbdaceklkhaaEngR
import Derived.Test.YtdhdbdaceklkhaaRows
namespace Go.Proofs.Ytdhdbdaceklkhaa
open Go Go.Eng Go.Fx Go.Proofs
set_option linter.unusedVariables false
set_option maxHeartbeats 2000000 in
theorem wellTicks_vc (b : Int) (b0 : (0 : Int) ≤ b) (b1 : b ≤ (18446744073709551615 : Int)) (up : Bool) (w : Int) (w0 : (-9223372036854775808 : Int) ≤ w) (w1 : w ≤ (9223372036854775807 : Int)) (z : Int) (z0 : (-9223372036854775808 : Int) ≤ z) (z1 : z ≤ (9223372036854775807 : Int)) (k : AV → List (Option Blk) → List Blk → Prop) (hk : k (AV.bool true) [] []) :
  (
   ((0 : Int) ≤ b) ∧
   (b ≤ (18446744073709551615 : Int))) ∧
  (
   ((-9223372036854775808 : Int) ≤ w) ∧
   (w ≤ (9223372036854775807 : Int))) ∧
  ∀ (v_1 : Int),
  ∀ (e_2 : Int),
  (v_1 = wS b w) →
  (e_2 = wE w) →
  ((0 : Int) ≤ v_1 ∧ v_1 ≤ (65536 : Int)) →
  (e_2 = (0 : Int) ∨ e_2 = (2 : Int)) →
  (
   ((0 : Int) ≤ b) ∧
   (b ≤ (18446744073709551615 : Int))) ∧
  (
   ((-9223372036854775808 : Int) ≤ w) ∧
   (w ≤ (9223372036854775807 : Int))) ∧
  ∀ (v_7 : Int),
  ∀ (e_8 : Int),
  (v_7 = wS b w) →
  (e_8 = wE w) →
  ((0 : Int) ≤ v_7 ∧ v_7 ≤ (65536 : Int)) →
  (e_8 = (0 : Int) ∨ e_8 = (2 : Int)) →
  (
   ((0 : Int) ≤ b) ∧
   (b ≤ (18446744073709551615 : Int))) ∧
  (
   ((-9223372036854775808 : Int) ≤ w) ∧
   (w ≤ (9223372036854775807 : Int))) ∧
  (
   ((-9223372036854775808 : Int) ≤ z) ∧
   (z ≤ (9223372036854775807 : Int))) ∧
  ∀ (p_13 : Bool),
  ∀ (e_14 : Int),
  (p_13 = pV b w z) →
  (e_14 = pE w z) →
  (e_14 = (0 : Int) ∨ e_14 = (2 : Int)) →
  (
   ((0 : Int) ≤ b) ∧
   (b ≤ (18446744073709551615 : Int))) ∧
  (
   ((-9223372036854775808 : Int) ≤ w) ∧
   (w ≤ (9223372036854775807 : Int))) ∧
  (
   ((-9223372036854775808 : Int) ≤ z) ∧
   (z ≤ (9223372036854775807 : Int))) ∧
  ∀ (p_18 : Bool),
  ∀ (e_19 : Int),
  (p_18 = pV b w z) →
  (e_19 = pE w z) →
  (e_19 = (0 : Int) ∨ e_19 = (2 : Int)) →
  (
   ((0 : Int) ≤ b) ∧
   (b ≤ (18446744073709551615 : Int))) ∧
  ∀ (r_23 : Int),
  (r_23 = wN b up) →
  ((0 : Int) ≤ r_23 ∧ r_23 ≤ (18446744073709551615 : Int)) →
  (
   ((0 : Int) ≤ b) ∧
   (b ≤ (18446744073709551615 : Int))) ∧
  ∀ (r_26 : Int),
  (r_26 = wN b up) →
  ((0 : Int) ≤ r_26 ∧ r_26 ≤ (18446744073709551615 : Int)) →
  (k (AV.bool (bif bif bif bif r_23 == r_26 && true then v_1 == v_7 else false then e_2 == e_8 else false then p_13 == p_18 else false then e_14 == e_19 else false)) [] []) := by
  refine ⟨by exact ⟨by assumption, by assumption⟩, ?_⟩ -- (0 : Int) ≤ b ∧ b ≤ (18446744073709551615 : Int)
  refine ⟨by exact ⟨by assumption, by assumption⟩, ?_⟩ -- (-9223372036854775808 : Int) ≤ w ∧ w ≤ (9223372036854775807 : Int)
  intro v_1
  intro e_2
  intro h1 -- v_1 = wS b w
  intro h2 -- e_2 = wE w
  intro ⟨a3, b3⟩ -- (0 : Int) ≤ v_1 ∧ v_1 ≤ (65536 : Int)
  intro h4 -- e_2 = (0 : Int) ∨ e_2 = (2 : Int)
  refine ⟨by exact ⟨by assumption, by assumption⟩, ?_⟩ -- (0 : Int) ≤ b ∧ b ≤ (18446744073709551615 : Int)
  refine ⟨by exact ⟨by assumption, by assumption⟩, ?_⟩ -- (-9223372036854775808 : Int) ≤ w ∧ w ≤ (9223372036854775807 : Int)
  intro v_7
  intro e_8
  intro h5 -- v_7 = wS b w
  intro h6 -- e_8 = wE w
  intro ⟨a7, b7⟩ -- (0 : Int) ≤ v_7 ∧ v_7 ≤ (65536 : Int)
  intro h8 -- e_8 = (0 : Int) ∨ e_8 = (2 : Int)
  refine ⟨by exact ⟨by assumption, by assumption⟩, ?_⟩ -- (0 : Int) ≤ b ∧ b ≤ (18446744073709551615 : Int)
  refine ⟨by exact ⟨by assumption, by assumption⟩, ?_⟩ -- (-9223372036854775808 : Int) ≤ w ∧ w ≤ (9223372036854775807 : Int)
  refine ⟨by exact ⟨by assumption, by assumption⟩, ?_⟩ -- (-9223372036854775808 : Int) ≤ z ∧ z ≤ (9223372036854775807 : Int)
  intro p_13
  intro e_14
  intro h9 -- p_13 = pV b w z
  intro h10 -- e_14 = pE w z
  intro h11 -- e_14 = (0 : Int) ∨ e_14 = (2 : Int)
  refine ⟨by exact ⟨by assumption, by assumption⟩, ?_⟩ -- (0 : Int) ≤ b ∧ b ≤ (18446744073709551615 : Int)
  refine ⟨by exact ⟨by assumption, by assumption⟩, ?_⟩ -- (-9223372036854775808 : Int) ≤ w ∧ w ≤ (9223372036854775807 : Int)
  refine ⟨by exact ⟨by assumption, by assumption⟩, ?_⟩ -- (-9223372036854775808 : Int) ≤ z ∧ z ≤ (9223372036854775807 : Int)
  intro p_18
  intro e_19
  intro h12 -- p_18 = pV b w z
  intro h13 -- e_19 = pE w z
  intro h14 -- e_19 = (0 : Int) ∨ e_19 = (2 : Int)
  refine ⟨by exact ⟨by assumption, by assumption⟩, ?_⟩ -- (0 : Int) ≤ b ∧ b ≤ (18446744073709551615 : Int)
  intro r_23
  intro h15 -- r_23 = wN b up
  intro ⟨a16, b16⟩ -- (0 : Int) ≤ r_23 ∧ r_23 ≤ (18446744073709551615 : Int)
  refine ⟨by exact ⟨by assumption, by assumption⟩, ?_⟩ -- (0 : Int) ≤ b ∧ b ≤ (18446744073709551615 : Int)
  intro r_26
  intro h17 -- r_26 = wN b up
  intro ⟨a18, b18⟩ -- (0 : Int) ≤ r_26 ∧ r_26 ≤ (18446744073709551615 : Int)
  exact by exact k_true hk (by simp only [*]; simp) -- k (AV.bool (bif bif bif bif r_23 == r_26 && true then v_1 == v_7 else false then e_2 == e_8 else false then p_13 == p_18 else false then e_14 == e_19 else false)) [] []

theorem wellTicks_ok : Holds Try.prog 5 lawTicks := by
  refine fn_sound (env := mkEnv T5) (tab_ok T5_ok) Try.func5 Try.call5 fun args k h => ?_
  match args, h with
  | [.agg [.int .u64 b], .bool up, .int .i64 w, .int .i64 z], h => exact ⟨by kernel_rfl, fun _ _ => none, fun _ _ => none, .cast (by kernel_rfl) (wellTicks_vc b h.1.1 h.1.2 up w h.2.1.1 h.2.1.2 z h.2.2.1.1 h.2.2.1.2 k h.2.2.2)⟩
set_option maxHeartbeats 2000000 in
theorem wellMore_vc (b : Int) (b0 : (0 : Int) ≤ b) (b1 : b ≤ (18446744073709551615 : Int)) (w : Int) (w0 : (-9223372036854775808 : Int) ≤ w) (w1 : w ≤ (9223372036854775807 : Int)) (low : Int) (low0 : (-9223372036854775808 : Int) ≤ low) (low1 : low ≤ (9223372036854775807 : Int)) (high : Int) (high0 : (-9223372036854775808 : Int) ≤ high) (high1 : high ≤ (9223372036854775807 : Int)) (k : AV → List (Option Blk) → List Blk → Prop) (hk : k (AV.bool true) [] []) :
  (
   ((0 : Int) ≤ b) ∧
   (b ≤ (18446744073709551615 : Int))) ∧
  ∀ (r_1 : Int),
  (r_1 = wN b true) →
  ((0 : Int) ≤ r_1 ∧ r_1 ≤ (18446744073709551615 : Int)) →
  (
   ((0 : Int) ≤ r_1) ∧
   (r_1 ≤ (18446744073709551615 : Int))) ∧
  (
   ((-9223372036854775808 : Int) ≤ w) ∧
   (w ≤ (9223372036854775807 : Int))) ∧
  ∀ (v_4 : Int),
  ∀ (e_5 : Int),
  (v_4 = wS r_1 w) →
  (e_5 = wE w) →
  ((0 : Int) ≤ v_4 ∧ v_4 ≤ (65536 : Int)) →
  (e_5 = (0 : Int) ∨ e_5 = (2 : Int)) →
  (
   ((0 : Int) ≤ b) ∧
   (b ≤ (18446744073709551615 : Int))) ∧
  ∀ (r_10 : Int),
  (r_10 = wN b false) →
  ((0 : Int) ≤ r_10 ∧ r_10 ≤ (18446744073709551615 : Int)) →
  (
   ((0 : Int) ≤ r_10) ∧
   (r_10 ≤ (18446744073709551615 : Int))) ∧
  (
   ((-9223372036854775808 : Int) ≤ w) ∧
   (w ≤ (9223372036854775807 : Int))) ∧
  ∀ (v_13 : Int),
  ∀ (e_14 : Int),
  (v_13 = wS r_10 w) →
  (e_14 = wE w) →
  ((0 : Int) ≤ v_13 ∧ v_13 ≤ (65536 : Int)) →
  (e_14 = (0 : Int) ∨ e_14 = (2 : Int)) →
  br (bif e_5 != (0 : Int) then true else e_14 != (0 : Int))
   ((k (AV.bool (bif true then e_5 == e_14 else false)) [] []))
   ((
     ((0 : Int) ≤ b) ∧
     (b ≤ (18446744073709551615 : Int))) ∧
    (
     ((-9223372036854775808 : Int) ≤ w) ∧
     (w ≤ (9223372036854775807 : Int))) ∧
    (
     ((-9223372036854775808 : Int) ≤ (0 : Int)) ∧
     ((0 : Int) ≤ (9223372036854775807 : Int))) ∧
    ∀ (p_19 : Bool),
    ∀ (e_20 : Int),
    (p_19 = pV b w (0 : Int)) →
    (e_20 = pE w (0 : Int)) →
    (e_20 = (0 : Int) ∨ e_20 = (2 : Int)) →
    br (bif bif e_20 != (0 : Int) then true else p_19 then true else decide (v_4 < v_13))
     ((k (AV.bool false) [] []))
     (br (bif bif decide (low < (0 : Int)) then true else decide (low > high) then true else decide (high > (65536 : Int)))
       ((k (AV.bool true) [] []))
       ((
         ((0 : Int) ≤ b) ∧
         (b ≤ (18446744073709551615 : Int))) ∧
        (
         ((-9223372036854775808 : Int) ≤ w) ∧
         (w ≤ (9223372036854775807 : Int))) ∧
        (
         ((-9223372036854775808 : Int) ≤ low) ∧
         (low ≤ (9223372036854775807 : Int))) ∧
        ∀ (p_24 : Bool),
        ∀ (e_25 : Int),
        (p_24 = pV b w low) →
        (e_25 = pE w low) →
        (e_25 = (0 : Int) ∨ e_25 = (2 : Int)) →
        (
         ((0 : Int) ≤ b) ∧
         (b ≤ (18446744073709551615 : Int))) ∧
        (
         ((-9223372036854775808 : Int) ≤ w) ∧
         (w ≤ (9223372036854775807 : Int))) ∧
        (
         ((-9223372036854775808 : Int) ≤ high) ∧
         (high ≤ (9223372036854775807 : Int))) ∧
        ∀ (p_29 : Bool),
        ∀ (e_30 : Int),
        (p_29 = pV b w high) →
        (e_30 = pE w high) →
        (e_30 = (0 : Int) ∨ e_30 = (2 : Int)) →
        (k (AV.bool (bif bif bif true then e_25 == (0 : Int) else false then e_30 == (0 : Int) else false then bif !p_24 then true else p_29 else false)) [] [])))) := by
  refine ⟨by exact ⟨by assumption, by assumption⟩, ?_⟩ -- (0 : Int) ≤ b ∧ b ≤ (18446744073709551615 : Int)
  intro r_1
  intro h1 -- r_1 = wN b true
  intro ⟨a2, b2⟩ -- (0 : Int) ≤ r_1 ∧ r_1 ≤ (18446744073709551615 : Int)
  refine ⟨by exact ⟨by assumption, by assumption⟩, ?_⟩ -- (0 : Int) ≤ r_1 ∧ r_1 ≤ (18446744073709551615 : Int)
  refine ⟨by exact ⟨by assumption, by assumption⟩, ?_⟩ -- (-9223372036854775808 : Int) ≤ w ∧ w ≤ (9223372036854775807 : Int)
  intro v_4
  intro e_5
  intro h3 -- v_4 = wS r_1 w
  intro h4 -- e_5 = wE w
  intro ⟨a5, b5⟩ -- (0 : Int) ≤ v_4 ∧ v_4 ≤ (65536 : Int)
  intro h6 -- e_5 = (0 : Int) ∨ e_5 = (2 : Int)
  refine ⟨by exact ⟨by assumption, by assumption⟩, ?_⟩ -- (0 : Int) ≤ b ∧ b ≤ (18446744073709551615 : Int)
  intro r_10
  intro h7 -- r_10 = wN b false
  intro ⟨a8, b8⟩ -- (0 : Int) ≤ r_10 ∧ r_10 ≤ (18446744073709551615 : Int)
  refine ⟨by exact ⟨by assumption, by assumption⟩, ?_⟩ -- (0 : Int) ≤ r_10 ∧ r_10 ≤ (18446744073709551615 : Int)
  refine ⟨by exact ⟨by assumption, by assumption⟩, ?_⟩ -- (-9223372036854775808 : Int) ≤ w ∧ w ≤ (9223372036854775807 : Int)
  intro v_13
  intro e_14
  intro h9 -- v_13 = wS r_10 w
  intro h10 -- e_14 = wE w
  intro ⟨a11, b11⟩ -- (0 : Int) ≤ v_13 ∧ v_13 ≤ (65536 : Int)
  intro h12 -- e_14 = (0 : Int) ∨ e_14 = (2 : Int)
  refine br_intro (fun c13 => ?_) (fun c13 => ?_) -- bif e_5 != (0 : Int) then true else e_14 != (0 : Int)
  · -- yes
    simp at c13 -- ¬e_5 = (0 : Int) ∨ ¬e_14 = (0 : Int)
    exact by exact k_true hk (by simp only [*]; simp) -- k (AV.bool (bif true then e_5 == e_14 else false)) [] []
  · -- no
    simp at c13 -- e_5 = (0 : Int) ∧ e_14 = (0 : Int)
    refine ⟨by exact ⟨by assumption, by assumption⟩, ?_⟩ -- (0 : Int) ≤ b ∧ b ≤ (18446744073709551615 : Int)
    refine ⟨by exact ⟨by assumption, by assumption⟩, ?_⟩ -- (-9223372036854775808 : Int) ≤ w ∧ w ≤ (9223372036854775807 : Int)
    refine ⟨by first | omega | (dsimp only; omega), ?_⟩ -- (-9223372036854775808 : Int) ≤ (0 : Int) ∧ (0 : Int) ≤ (9223372036854775807 : Int)
    intro p_19
    intro e_20
    intro h14 -- p_19 = pV b w (0 : Int)
    intro h15 -- e_20 = pE w (0 : Int)
    intro h16 -- e_20 = (0 : Int) ∨ e_20 = (2 : Int)
    refine br_intro (fun c17 => ?_) (fun c17 => ?_) -- bif bif e_20 != (0 : Int) then true else p_19 then true else decide (v_4 < v_13)
    · -- yes
      simp at c17 -- (¬e_20 = (0 : Int) ∨ p_19 = true) ∨ v_4 < v_13
      -- k (AV.bool false) [] []
      exfalso
      have w0 : wE w = 0 := h4.symm.trans c13.1
      have m := more_ge (b := b) w0 (by assumption)
      rw [← h1, ← h7, ← h3, ← h9] at m
      have pn := p_none (b := b) w0 (by assumption)
      rw [← h14, ← h15] at pn
      rcases c17 with (c | c) | c
      · exact c pn.2
      · rw [pn.1] at c; cases c
      · omega
    · -- no
      simp at c17 -- (e_20 = (0 : Int) ∧ p_19 = false) ∧ v_13 ≤ v_4
      refine br_intro (fun c18 => ?_) (fun c18 => ?_) -- bif bif decide (low < (0 : Int)) then true else decide (low > high) then true else decide (high > (65536 : Int))
      · -- yes
        simp at c18 -- (low < (0 : Int) ∨ high < low) ∨ (65536 : Int) < high
        exact by exact hk -- k (AV.bool true) [] []
      · -- no
        simp at c18 -- ((0 : Int) ≤ low ∧ low ≤ high) ∧ high ≤ (65536 : Int)
        refine ⟨by exact ⟨by assumption, by assumption⟩, ?_⟩ -- (0 : Int) ≤ b ∧ b ≤ (18446744073709551615 : Int)
        refine ⟨by exact ⟨by assumption, by assumption⟩, ?_⟩ -- (-9223372036854775808 : Int) ≤ w ∧ w ≤ (9223372036854775807 : Int)
        refine ⟨by exact ⟨by assumption, by assumption⟩, ?_⟩ -- (-9223372036854775808 : Int) ≤ low ∧ low ≤ (9223372036854775807 : Int)
        intro p_24
        intro e_25
        intro h19 -- p_24 = pV b w low
        intro h20 -- e_25 = pE w low
        intro h21 -- e_25 = (0 : Int) ∨ e_25 = (2 : Int)
        refine ⟨by exact ⟨by assumption, by assumption⟩, ?_⟩ -- (0 : Int) ≤ b ∧ b ≤ (18446744073709551615 : Int)
        refine ⟨by exact ⟨by assumption, by assumption⟩, ?_⟩ -- (-9223372036854775808 : Int) ≤ w ∧ w ≤ (9223372036854775807 : Int)
        refine ⟨by exact ⟨by assumption, by assumption⟩, ?_⟩ -- (-9223372036854775808 : Int) ≤ high ∧ high ≤ (9223372036854775807 : Int)
        intro p_29
        intro e_30
        intro h22 -- p_29 = pV b w high
        intro h23 -- e_30 = pE w high
        intro h24 -- e_30 = (0 : Int) ∨ e_30 = (2 : Int)
        -- k (AV.bool (bif bif bif true then e_25 == (0 : Int) else false then e_30 == (0 : Int) else false then bif !p_24 then true else p_29 else false)) [] []
        have w0 : wE w = 0 := h4.symm.trans c13.1
        have G1 := p_good (b := b) (z := low) w0 (by omega)
        have G2 := p_good (b := b) (z := high) w0 (by omega)
        rw [← h19, ← h20] at G1
        rw [← h22, ← h23] at G2
        exact k_true hk (by simp [← G1.1, ← G2.1, G1.2, G2.2]; omega)

theorem wellMore_ok : Holds Try.prog 6 lawMore := by
  refine fn_sound (env := mkEnv T5) (tab_ok T5_ok) Try.func6 Try.call6 fun args k h => ?_
  match args, h with
  | [.agg [.int .u64 b], .int .i64 w, .int .i64 low, .int .i64 high], h => exact ⟨by kernel_rfl, fun _ _ => none, fun _ _ => none, .cast (by kernel_rfl) (wellMore_vc b h.1.1 h.1.2 w h.2.1.1 h.2.1.2 low h.2.2.1.1 h.2.2.1.2 high h.2.2.2.1.1 h.2.2.2.1.2 k h.2.2.2.2)⟩
end Go.Proofs.Ytdhdbdaceklkhaa
namespace Go.Proofs.Ytdhdbdaceklkhaa
open Go.ChangeShapes Go.WideShapes Go.ChangeAt Go.RowKit Go.Eng
set_option linter.unusedVariables false

theorem ownA : ownKnob Try.prog.godebug = none := by kernel_rfl
theorem laidA : laidOutB Try.prog = true := by kernel_rfl

set_option maxHeartbeats 800000 in
set_option maxRecDepth 100000 in
theorem wellTicksLifted (os : Os) (started : os.Started) (H : Type) (enc : TypeId × Value → H) :
    ReturnsInHanded {} Try.checked os 5 .any (Rows.wellTicksSpec.pre6 enc Try.prog Try.f5 Rows.wellTicksRow.domain false) (Rows.wellTicksSpec.post enc Try.prog Try.f5 false true false false) := by
  refine returnsInHanded_of_change (C := Try.checked) ownA started (by kernel_rfl) Try.func5
    (ChangeSpec.witness6 (enc := enc) (C := Try.checked) false ⟨#[], #[.agg #[.int .u64 0], .bool false, .int .i64 0, .int .i64 0], []⟩ 8 (by kernel_rfl) (by kernel_rfl) (by kernel_rfl) (by kernel_rfl)) ?_
  intro W base args ds gs before hval0 hW hcnd _
  have hval : ∀ (j : Nat) t v, Try.f5.params[j]? = some t → args[j]? = some v → Value.okWide Try.prog W .any base t v := hval0
  have hW' := hW
  obtain ⟨p, q, hA0, hV, rfl, hfz, hnd⟩ := hW
  have hA : DataW.TrodAll enc Try.prog W 0 (fun _ => true) true Try.f5.params.toList args.toList ds p := hA0
  rw [Try.params5] at hA hval
  obtain ⟨v0, vs0, d0, ds0, p0, q0, hargs, rfl, rfl, h0, r0⟩ := trodAll_cons hA
  obtain ⟨v1, vs1, d1, ds1, p1, q1, rfl, rfl, rfl, h1, r1⟩ := trodAll_cons r0
  obtain ⟨v2, vs2, d2, ds2, p2, q2, rfl, rfl, rfl, h2, r2⟩ := trodAll_cons r1
  obtain ⟨v3, vs3, d3, ds3, p3, q3, rfl, rfl, rfl, h3, r3⟩ := trodAll_cons r2
  obtain ⟨rfl, rfl, rfl⟩ := trodAll_nil r3
  obtain rfl : args = #[v0, v1, v2, v3] := by cases args; simp_all
  obtain ⟨rfl, rfl⟩ := trodVars_none hV
  have k0 := h0
  have lt0 : ∀ x ∈ p0, x.block < W.heap.size := by obtain ⟨m, hm⟩ := k0; exact DataW.trod_lt m _ _ _ hm
  obtain ⟨fuel0, hf0⟩ := h0
  obtain ⟨cs0, rfl, hsz0, hcs0⟩ := open_scal Try.underlying24 (by kernel_rfl) (by kernel_rfl) (hval 0 24 v0 rfl rfl) hf0
  obtain ⟨c0_0, rfl⟩ : ∃ b0, cs0 = #[b0] := by
    exact arr1 hsz0
  obtain ⟨n0_0, y0_0, hy0_0⟩ := hcs0 0 _ _ rfl rfl
  obtain ⟨a0_0, e0_0, -, w0_0⟩ := DataW.trod_int Try.underlying22 hy0_0
  obtain rfl : c0_0 = .int .u64 a0_0 := by simpa using e0_0
  obtain ⟨a1, rfl, rfl, rfl⟩ := open_bool Try.underlying4 (hval 1 4 v1 rfl rfl) h1
  obtain ⟨a2, rfl, rfl, rfl, w2⟩ := open_int Try.underlying3 (hval 2 3 v2 rfl rfl) h2
  obtain ⟨a3, rfl, rfl, rfl, w3⟩ := open_int Try.underlying2 (hval 3 2 v3 rfl rfl) h3
  clear hA0 hval0
  have hk0_0 : kwf .u64 a0_0 := by simpa [Lit.wf, kwf] using w0_0
  have hk2 : kwf .i64 a2 := by simpa [Lit.wf, kwf] using w2
  have hk3 : kwf .i64 a3 := by simpa [Lit.wf, kwf] using w3
  -- PRE: what the spec asks (['hk0_0', 'hk2', 'hk3']), then rfl
  refine (calls_of_holds wellTicks_ok Try.call5 (w := W) (vals := #[.agg #[.int .u64 a0_0], .bool a1, .int .i64 a2, .int .i64 a3]) (args := [.agg [.int .u64 a0_0], .bool a1, .int .i64 a2, .int .i64 a3]) rfl (fun j v hj => ?_) ⟨hk0_0, hk2, hk3, rfl⟩).mono fun e W' ⟨he, bel⟩ => ?_
  · rcases j with _ | _ | _ | _ | j
    · simp at hj; subst hj; refine .agg rfl (fun j v h => ?_) (fun j v h => ?_) <;> rcases j with _ | j <;> simp at h <;> subst h <;> first | rfl | exact .bool | exact .int (by assumption)
    · simp at hj; subst hj; exact .bool
    · simp at hj; subst hj; exact .int hk2
    · simp at hj; subst hj; exact .int hk3
    · simp at hj
  subst he
  exact ⟨_, rfl, _, _, _, [], _, [], hW', trodAll_mk1 (shut_bool Try.underlying4 _), (trodAll_cons_mk (Below.trod laidA (by kernel_rfl) (of_decide_eq_true (by kernel_rfl)) k0 bel lt0) (trodAll_cons_mk (shut_bool Try.underlying4 _) (trodAll_cons_mk (shut_int Try.underlying3 w2) (trodAll_cons_mk (shut_int Try.underlying2 w3) trodAll_mk0)))), rfl, bel.frame _, fun h => by cases h⟩

theorem wellTicks_said : Rows.WellTicksSaid :=
  OpenClaim.holds_of_wide 5 Try.f5 rfl rfl rfl rfl rfl rfl rfl ⟨rfl, rfl, rfl, rfl, rfl⟩ rfl rfl rfl rfl rfl (by kernel_rfl) Try.func5 (by kernel_rfl)
    (of_decide_eq_true (by kernel_rfl)) (by unfold Func.isWrapper; first | (rw [if_pos (by decide +kernel)]; kernel_rfl) | (rw [if_neg (by decide +kernel)]; exact ⟨rfl, rfl⟩))
    (fun os started H enc _ => wellTicksLifted os started H enc)
#print axioms wellTicks_said
end Go.Proofs.Ytdhdbdaceklkhaa

namespace Go.Proofs.Ytdhdbdaceklkhaa
open Go.ChangeShapes Go.WideShapes Go.ChangeAt Go.RowKit Go.Eng
set_option linter.unusedVariables false

theorem ownB : ownKnob Try.prog.godebug = none := by kernel_rfl
theorem laidB : laidOutB Try.prog = true := by kernel_rfl

set_option maxHeartbeats 800000 in
set_option maxRecDepth 100000 in
theorem wellMoreLifted (os : Os) (started : os.Started) (H : Type) (enc : TypeId × Value → H) :
    ReturnsInHanded {} Try.checked os 6 .any (Rows.wellMoreSpec.pre6 enc Try.prog Try.f6 Rows.wellMoreRow.domain false) (Rows.wellMoreSpec.post enc Try.prog Try.f6 false true false false) := by
  refine returnsInHanded_of_change (C := Try.checked) ownB started (by kernel_rfl) Try.func6
    (ChangeSpec.witness6 (enc := enc) (C := Try.checked) false ⟨#[], #[.agg #[.int .u64 0], .int .i64 0, .int .i64 0, .int .i64 0], []⟩ 8 (by kernel_rfl) (by kernel_rfl) (by kernel_rfl) (by kernel_rfl)) ?_
  intro W base args ds gs before hval0 hW hcnd _
  have hval : ∀ (j : Nat) t v, Try.f6.params[j]? = some t → args[j]? = some v → Value.okWide Try.prog W .any base t v := hval0
  have hW' := hW
  obtain ⟨p, q, hA0, hV, rfl, hfz, hnd⟩ := hW
  have hA : DataW.TrodAll enc Try.prog W 0 (fun _ => true) true Try.f6.params.toList args.toList ds p := hA0
  rw [Try.params6] at hA hval
  obtain ⟨v0, vs0, d0, ds0, p0, q0, hargs, rfl, rfl, h0, r0⟩ := trodAll_cons hA
  obtain ⟨v1, vs1, d1, ds1, p1, q1, rfl, rfl, rfl, h1, r1⟩ := trodAll_cons r0
  obtain ⟨v2, vs2, d2, ds2, p2, q2, rfl, rfl, rfl, h2, r2⟩ := trodAll_cons r1
  obtain ⟨v3, vs3, d3, ds3, p3, q3, rfl, rfl, rfl, h3, r3⟩ := trodAll_cons r2
  obtain ⟨rfl, rfl, rfl⟩ := trodAll_nil r3
  obtain rfl : args = #[v0, v1, v2, v3] := by cases args; simp_all
  obtain ⟨rfl, rfl⟩ := trodVars_none hV
  have k0 := h0
  have lt0 : ∀ x ∈ p0, x.block < W.heap.size := by obtain ⟨m, hm⟩ := k0; exact DataW.trod_lt m _ _ _ hm
  obtain ⟨fuel0, hf0⟩ := h0
  obtain ⟨cs0, rfl, hsz0, hcs0⟩ := open_scal Try.underlying24 (by kernel_rfl) (by kernel_rfl) (hval 0 24 v0 rfl rfl) hf0
  obtain ⟨c0_0, rfl⟩ : ∃ b0, cs0 = #[b0] := by
    exact arr1 hsz0
  obtain ⟨n0_0, y0_0, hy0_0⟩ := hcs0 0 _ _ rfl rfl
  obtain ⟨a0_0, e0_0, -, w0_0⟩ := DataW.trod_int Try.underlying22 hy0_0
  obtain rfl : c0_0 = .int .u64 a0_0 := by simpa using e0_0
  obtain ⟨a1, rfl, rfl, rfl, w1⟩ := open_int Try.underlying3 (hval 1 3 v1 rfl rfl) h1
  obtain ⟨a2, rfl, rfl, rfl, w2⟩ := open_int Try.underlying2 (hval 2 2 v2 rfl rfl) h2
  obtain ⟨a3, rfl, rfl, rfl, w3⟩ := open_int Try.underlying2 (hval 3 2 v3 rfl rfl) h3
  clear hA0 hval0
  have hk0_0 : kwf .u64 a0_0 := by simpa [Lit.wf, kwf] using w0_0
  have hk1 : kwf .i64 a1 := by simpa [Lit.wf, kwf] using w1
  have hk2 : kwf .i64 a2 := by simpa [Lit.wf, kwf] using w2
  have hk3 : kwf .i64 a3 := by simpa [Lit.wf, kwf] using w3
  -- PRE: what the spec asks (['hk0_0', 'hk1', 'hk2', 'hk3']), then rfl
  refine (calls_of_holds wellMore_ok Try.call6 (w := W) (vals := #[.agg #[.int .u64 a0_0], .int .i64 a1, .int .i64 a2, .int .i64 a3]) (args := [.agg [.int .u64 a0_0], .int .i64 a1, .int .i64 a2, .int .i64 a3]) rfl (fun j v hj => ?_) ⟨hk0_0, hk1, hk2, hk3, rfl⟩).mono fun e W' ⟨he, bel⟩ => ?_
  · rcases j with _ | _ | _ | _ | j
    · simp at hj; subst hj; refine .agg rfl (fun j v h => ?_) (fun j v h => ?_) <;> rcases j with _ | j <;> simp at h <;> subst h <;> first | rfl | exact .bool | exact .int (by assumption)
    · simp at hj; subst hj; exact .int hk1
    · simp at hj; subst hj; exact .int hk2
    · simp at hj; subst hj; exact .int hk3
    · simp at hj
  subst he
  exact ⟨_, rfl, _, _, _, [], _, [], hW', trodAll_mk1 (shut_bool Try.underlying4 _), (trodAll_cons_mk (Below.trod laidB (by kernel_rfl) (of_decide_eq_true (by kernel_rfl)) k0 bel lt0) (trodAll_cons_mk (shut_int Try.underlying3 w1) (trodAll_cons_mk (shut_int Try.underlying2 w2) (trodAll_cons_mk (shut_int Try.underlying2 w3) trodAll_mk0)))), rfl, bel.frame _, fun h => by cases h⟩

theorem wellMore_said : Rows.WellMoreSaid :=
  OpenClaim.holds_of_wide 6 Try.f6 rfl rfl rfl rfl rfl rfl rfl ⟨rfl, rfl, rfl, rfl, rfl⟩ rfl rfl rfl rfl rfl (by kernel_rfl) Try.func6 (by kernel_rfl)
    (of_decide_eq_true (by kernel_rfl)) (by unfold Func.isWrapper; first | (rw [if_pos (by decide +kernel)]; kernel_rfl) | (rw [if_neg (by decide +kernel)]; exact ⟨rfl, rfl⟩))
    (fun os started H enc _ => wellMoreLifted os started H enc)
#print axioms wellMore_said
end Go.Proofs.Ytdhdbdaceklkhaa


