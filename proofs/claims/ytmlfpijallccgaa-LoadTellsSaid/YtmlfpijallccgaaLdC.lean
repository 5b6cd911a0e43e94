import Derived.Test.YtmlfpijallccgaaLdB
import Derived.Test.YtmlfpijallccgaaFxC
namespace Go.Proofs.Ytmlfpijallccgaa
open Go Go.Eng Go.Fx Go.Proofs
set_option linter.unusedVariables false
set_option maxHeartbeats 2000000 in
theorem lfixed_vc (a : Int) (a0 : (-9223372036854775808 : Int) ≤ a) (a1 : a ≤ (9223372036854775807 : Int)) (k : AV → List (Option Blk) → List Blk → Prop) (hk : k (AV.bool (decide ((0 : Int) ≤ a ∧ a ≤ (65536 : Int)))) [] []) :
  (k (AV.bool (bif decide (a ≥ (0 : Int)) then decide (a ≤ (65536 : Int)) else false)) [] []) := by
  -- k (AV.bool (bif decide (a ≥ (0 : Int)) then decide (a ≤ (65536 : Int)) else false)) [] []
  have e : (bif decide (a ≥ (0 : Int)) then decide (a ≤ 65536) else false) = decide (0 ≤ a ∧ a ≤ 65536) := by rw [Bool.eq_iff_iff]; simp
  rw [e]; exact hk

theorem lfixed_ok : Holds Try.prog 18 fxS := by
  refine fn_sound (env := mkEnv T0) (tab_ok T0_ok) Try.func18 Try.call18 fun args k h => ?_
  match args, h with
  | [.int .i64 a], h => exact ⟨by kernel_rfl, fun _ _ => none, fun _ _ => none, .cast (by kernel_rfl) (lfixed_vc a h.1.1 h.1.2 k h.2)⟩
set_option maxHeartbeats 2000000 in
theorem rfixed_vc (a : Int) (a0 : (-9223372036854775808 : Int) ≤ a) (a1 : a ≤ (9223372036854775807 : Int)) (k : AV → List (Option Blk) → List Blk → Prop) (hk : k (AV.bool (decide ((0 : Int) ≤ a ∧ a ≤ (65536 : Int)))) [] []) :
  (k (AV.bool (bif decide (a ≥ (0 : Int)) then decide (a ≤ (65536 : Int)) else false)) [] []) := by
  -- k (AV.bool (bif decide (a ≥ (0 : Int)) then decide (a ≤ (65536 : Int)) else false)) [] []
  have e : (bif decide (a ≥ (0 : Int)) then decide (a ≤ 65536) else false) = decide (0 ≤ a ∧ a ≤ 65536) := by rw [Bool.eq_iff_iff]; simp
  rw [e]; exact hk

theorem rfixed_ok : Holds Try.prog 21 fxS := by
  refine fn_sound (env := mkEnv T0) (tab_ok T0_ok) Try.func21 Try.call21 fun args k h => ?_
  match args, h with
  | [.int .i64 a], h => exact ⟨by kernel_rfl, fun _ _ => none, fun _ _ => none, .cast (by kernel_rfl) (rfixed_vc a h.1.1 h.1.2 k h.2)⟩
set_option maxHeartbeats 2000000 in
theorem above_vc (a : Int) (b : Int) (k : AV → List (Option Blk) → List Blk → Prop) (hk : k (AV.bool (decide (a > b))) [] []) :
  (k (AV.bool (decide (a > b))) [] []) := by
  exact by exact hk -- k (AV.bool (decide (a > b))) [] []

theorem above_ok : Holds Try.prog 20 aboveS := by
  refine fn_sound (env := mkEnv T0) (tab_ok T0_ok) Try.func20 Try.call20 fun args k h => ?_
  match args, h with
  | [.int .i64 a, .int .i64 b], h => exact ⟨by kernel_rfl, fun _ _ => none, fun _ _ => none, .cast (by kernel_rfl) (above_vc a b k h)⟩
set_option maxHeartbeats 2000000 in
theorem mixed_vc (a : Int) (a0 : (-9223372036854775808 : Int) ≤ a) (a1 : a ≤ (9223372036854775807 : Int)) (b : Int) (b0 : (-9223372036854775808 : Int) ≤ b) (b1 : b ≤ (9223372036854775807 : Int)) (c : Int) (c0 : (-9223372036854775808 : Int) ≤ c) (c1 : c ≤ (9223372036854775807 : Int)) (ha : (0 : Int) ≤ a ∧ a ≤ (65536 : Int)) (hb : (0 : Int) ≤ b ∧ b ≤ (65536 : Int)) (hc : (0 : Int) ≤ c ∧ c ≤ (65536 : Int)) (k : AV → List (Option Blk) → List Blk → Prop) (hk : ∀ (r : Int), r = mixI a b c → True → k (AV.int IntKind.i64 r) [] []) :
  ∀ (n1 : Int),
  (n1 = IntKind.i64.wrap (b - a)) →
  ((-9223372036854775808 : Int) ≤ n1 ∧ n1 ≤ (9223372036854775807 : Int)) →
  ∀ (n4 : Int),
  (n4 = IntKind.i64.wrap (n1 * c)) →
  ((-9223372036854775808 : Int) ≤ n4 ∧ n4 ≤ (9223372036854775807 : Int)) →
  ((65536 : Int) ≠ (0 : Int)) ∧
  ∀ (n7 : Int),
  (n7 = IntKind.i64.wrap (n4.tdiv (65536 : Int))) →
  ((-9223372036854775808 : Int) ≤ n7 ∧ n7 ≤ (9223372036854775807 : Int)) →
  ((65536 : Int) ≠ (0 : Int)) ∧
  ∀ (n10 : Int),
  (n10 = n4.tmod (65536 : Int)) →
  ((-9223372036854775808 : Int) ≤ n10 ∧ n10 ≤ (9223372036854775807 : Int)) →
  br (decide (n10 < (0 : Int)))
   (∀ (n13 : Int),
    (n13 = IntKind.i64.wrap (n7 - (1 : Int))) →
    ((-9223372036854775808 : Int) ≤ n13 ∧ n13 ≤ (9223372036854775807 : Int)) →
    ∀ (n16 : Int),
    (n16 = IntKind.i64.wrap (a + n13)) →
    ((-9223372036854775808 : Int) ≤ n16 ∧ n16 ≤ (9223372036854775807 : Int)) →
    (k (AV.int IntKind.i64 n16) [] []))
   (∀ (n19 : Int),
    (n19 = IntKind.i64.wrap (a + n7)) →
    ((-9223372036854775808 : Int) ≤ n19 ∧ n19 ≤ (9223372036854775807 : Int)) →
    (k (AV.int IntKind.i64 n19) [] [])) := by
  have mc : mixI a b c = a + (b - a) * c / 65536 ∧ (-4294967296 ≤ (b - a) * c ∧ (b - a) * c ≤ 4294967296) := by exact mixed_code ha hb hc rfl
  intro n1
  intro q1 -- n1 = IntKind.i64.wrap (b - a)
  rw [IntKind.wrap_i64] at q1
  intro ⟨l1, u1⟩ -- (-9223372036854775808 : Int) ≤ n1 ∧ n1 ≤ (9223372036854775807 : Int)
  have e1 : n1 * c = (b - a) * c := by (rw [show n1 = b - a by omega])
  intro n4
  intro q4 -- n4 = IntKind.i64.wrap (n1 * c)
  rw [IntKind.wrap_i64] at q4
  intro ⟨l4, u4⟩ -- (-9223372036854775808 : Int) ≤ n4 ∧ n4 ≤ (9223372036854775807 : Int)
  refine ⟨by omega, ?_⟩ -- (65536 : Int) ≠ (0 : Int)
  intro n7
  intro q7 -- n7 = IntKind.i64.wrap (n4.tdiv (65536 : Int))
  rw [IntKind.wrap_i64] at q7
  intro ⟨l7, u7⟩ -- (-9223372036854775808 : Int) ≤ n7 ∧ n7 ≤ (9223372036854775807 : Int)
  refine ⟨by omega, ?_⟩ -- (65536 : Int) ≠ (0 : Int)
  intro n10
  intro q10 -- n10 = n4.tmod (65536 : Int)
  intro ⟨l10, u10⟩ -- (-9223372036854775808 : Int) ≤ n10 ∧ n10 ≤ (9223372036854775807 : Int)
  have tm : (0 ≤ n4 → 0 ≤ n10) ∧ (n4 ≤ 0 → n10 ≤ 0) := by (rw [q10]; exact tmod_sign n4 65536)
  refine brd (fun c1 => ?_) (fun c1 => ?_) -- decide (n10 < (0 : Int))
  · -- yes
    intro n13
    intro q13 -- n13 = IntKind.i64.wrap (n7 - (1 : Int))
    rw [IntKind.wrap_i64] at q13
    intro ⟨l13, u13⟩ -- (-9223372036854775808 : Int) ≤ n13 ∧ n13 ≤ (9223372036854775807 : Int)
    intro n16
    intro q16 -- n16 = IntKind.i64.wrap (a + n13)
    rw [IntKind.wrap_i64] at q16
    intro ⟨l16, u16⟩ -- (-9223372036854775808 : Int) ≤ n16 ∧ n16 ≤ (9223372036854775807 : Int)
    -- k (AV.int IntKind.i64 n16) [] []
    have dc := down_code n4 65536 n7 n10 n13 (by decide) l4 u4 q7 q10
    exact hk _ (by have := dc.1 (by omega) q13; rw [mc.1]; omega) trivial
  · -- no
    intro n19
    intro q19 -- n19 = IntKind.i64.wrap (a + n7)
    rw [IntKind.wrap_i64] at q19
    intro ⟨l19, u19⟩ -- (-9223372036854775808 : Int) ≤ n19 ∧ n19 ≤ (9223372036854775807 : Int)
    -- k (AV.int IntKind.i64 n19) [] []
    have dc := down_code n4 65536 n7 n10 0 (by decide) l4 u4 q7 q10
    have sg : ¬ n10 = 0 → 0 ≤ n4 := fun h => by omega
    exact hk _ (by have := dc.2 sg; rw [mc.1]; omega) trivial

theorem mixed_ok : Holds Try.prog 24 mixedS := by
  refine fn_sound (env := mkEnv T0) (tab_ok T0_ok) Try.func24 Try.call24 fun args k h => ?_
  match args, h with
  | [.int .i64 a, .int .i64 b, .int .i64 c], h => exact ⟨by kernel_rfl, fun _ _ => none, fun _ _ => none, .cast (by kernel_rfl) (mixed_vc a h.1.1 h.1.2 b h.2.1.1 h.2.1.2 c h.2.2.1.1 h.2.2.1.2 h.2.2.2.1 h.2.2.2.2.1 h.2.2.2.2.2.1 k h.2.2.2.2.2.2)⟩
set_option maxHeartbeats 2000000 in
theorem full_vc (green : Int) (green0 : (-9223372036854775808 : Int) ≤ green) (green1 : green ≤ (9223372036854775807 : Int)) (busy : Int) (busy0 : (-9223372036854775808 : Int) ≤ busy) (busy1 : busy ≤ (9223372036854775807 : Int)) (came : Int) (came0 : (-9223372036854775808 : Int) ≤ came) (came1 : came ≤ (9223372036854775807 : Int)) (headway : Int) (headway0 : (-9223372036854775808 : Int) ≤ headway) (headway1 : headway ≤ (9223372036854775807 : Int)) (ok : loadOk green busy came headway) (k : AV → List (Option Blk) → List Blk → Prop) (hk : ∀ (v : Int), v = loadV green busy came headway → (0 : Int) ≤ v ∧ v ≤ (65536 : Int) → k (AV.int IntKind.i64 v) [] []) :
  br (green == (0 : Int))
   ((k (AV.int IntKind.i64 (0 : Int)) [] []))
   (∀ (n1 : Int),
    (n1 = IntKind.i64.wrap (came * headway)) →
    ((-9223372036854775808 : Int) ≤ n1 ∧ n1 ≤ (9223372036854775807 : Int)) →
    ∀ (n4 : Int),
    (n4 = IntKind.i64.wrap (busy + n1)) →
    ((-9223372036854775808 : Int) ≤ n4 ∧ n4 ≤ (9223372036854775807 : Int)) →
    br (decide (n4 > green))
     (∀ (n7 : Int),
      (n7 = IntKind.i64.wrap (green * (65536 : Int))) →
      ((-9223372036854775808 : Int) ≤ n7 ∧ n7 ≤ (9223372036854775807 : Int)) →
      (green ≠ (0 : Int)) ∧
      ∀ (n10 : Int),
      (n10 = IntKind.i64.wrap (n7.tdiv green)) →
      ((-9223372036854775808 : Int) ≤ n10 ∧ n10 ≤ (9223372036854775807 : Int)) →
      (k (AV.int IntKind.i64 n10) [] []))
     (∀ (n13 : Int),
      (n13 = IntKind.i64.wrap (n4 * (65536 : Int))) →
      ((-9223372036854775808 : Int) ≤ n13 ∧ n13 ≤ (9223372036854775807 : Int)) →
      (green ≠ (0 : Int)) ∧
      ∀ (n16 : Int),
      (n16 = IntKind.i64.wrap (n13.tdiv green)) →
      ((-9223372036854775808 : Int) ≤ n16 ∧ n16 ≤ (9223372036854775807 : Int)) →
      (k (AV.int IntKind.i64 n16) [] []))) := by
  have pr : 0 ≤ came * headway ∧ came * headway ≤ 1125899906842624 := by exact prod_bd ok.2.2.1 ok.2.2.2
  refine br_intro (fun c1 => ?_) (fun c1 => ?_) -- green == (0 : Int)
  · -- yes
    simp at c1 -- green = (0 : Int)
    -- k (AV.int IntKind.i64 (0 : Int)) [] []
    exact hk 0 (by unfold loadV; rw [if_pos ok, if_pos c1]) (by omega)
  · -- no
    simp at c1 -- ¬green = (0 : Int)
    intro n1
    intro q1 -- n1 = IntKind.i64.wrap (came * headway)
    rw [IntKind.wrap_i64] at q1
    intro ⟨l1, u1⟩ -- (-9223372036854775808 : Int) ≤ n1 ∧ n1 ≤ (9223372036854775807 : Int)
    intro n4
    intro q4 -- n4 = IntKind.i64.wrap (busy + n1)
    rw [IntKind.wrap_i64] at q4
    intro ⟨l4, u4⟩ -- (-9223372036854775808 : Int) ≤ n4 ∧ n4 ≤ (9223372036854775807 : Int)
    refine brd (fun c2 => ?_) (fun c2 => ?_) -- decide (n4 > green)
    · -- yes
      intro n7
      intro q7 -- n7 = IntKind.i64.wrap (green * (65536 : Int))
      rw [IntKind.wrap_i64] at q7
      intro ⟨l7, u7⟩ -- (-9223372036854775808 : Int) ≤ n7 ∧ n7 ≤ (9223372036854775807 : Int)
      refine ⟨by assumption, ?_⟩ -- green ≠ (0 : Int)
      intro n10
      intro q10 -- n10 = IntKind.i64.wrap (n7.tdiv green)
      rw [Int.tdiv_eq_ediv_of_nonneg (by omega)] at q10
      rw [IntKind.wrap_i64] at q10
      intro ⟨l10, u10⟩ -- (-9223372036854775808 : Int) ≤ n10 ∧ n10 ≤ (9223372036854775807 : Int)
      -- k (AV.int IntKind.i64 n10) [] []
      have fb := full_bd (g := green) (m := green) (by omega) (by omega) (by omega)
      have e7 : n7 = green * 65536 := by omega
      rw [e7] at q10
      exact hk _ (by unfold loadV; rw [if_pos ok, if_neg c1, show min green (busy + came * headway) = green by omega]; omega) (by omega)
    · -- no
      intro n13
      intro q13 -- n13 = IntKind.i64.wrap (n4 * (65536 : Int))
      rw [IntKind.wrap_i64] at q13
      intro ⟨l13, u13⟩ -- (-9223372036854775808 : Int) ≤ n13 ∧ n13 ≤ (9223372036854775807 : Int)
      refine ⟨by assumption, ?_⟩ -- green ≠ (0 : Int)
      intro n16
      intro q16 -- n16 = IntKind.i64.wrap (n13.tdiv green)
      rw [Int.tdiv_eq_ediv_of_nonneg (by omega)] at q16
      rw [IntKind.wrap_i64] at q16
      intro ⟨l16, u16⟩ -- (-9223372036854775808 : Int) ≤ n16 ∧ n16 ≤ (9223372036854775807 : Int)
      -- k (AV.int IntKind.i64 n16) [] []
      have fb := full_bd (g := green) (m := busy + came * headway) (by omega) (by omega) (by omega)
      have e13 : n13 = (busy + came * headway) * 65536 := by omega
      rw [e13] at q16
      exact hk _ (by unfold loadV; rw [if_pos ok, if_neg c1, show min green (busy + came * headway) = busy + came * headway by omega]; omega) (by omega)

theorem full_ok : Holds Try.prog 17 fullS := by
  refine fn_sound (env := mkEnv T0) (tab_ok T0_ok) Try.func17 Try.call17 fun args k h => ?_
  match args, h with
  | [.int .i64 green, .int .i64 busy, .int .i64 came, .int .i64 headway], h => exact ⟨by kernel_rfl, fun _ _ => none, fun _ _ => none, .cast (by kernel_rfl) (full_vc green h.1.1 h.1.2 busy h.2.1.1 h.2.1.2 came h.2.2.1.1 h.2.2.1.2 headway h.2.2.2.1.1 h.2.2.2.1.2 h.2.2.2.2.1 k h.2.2.2.2.2)⟩
theorem T3_ok : TabOk Try.prog T3 := ⟨fix_stop_ok, fix_Of_ok, fix_Div_ok, fix_Mix_ok, lfixed_ok, rfixed_ok, above_ok, mixed_ok, full_ok, trivial⟩
set_option maxHeartbeats 2000000 in
theorem load_vc (green : Int) (green0 : (-9223372036854775808 : Int) ≤ green) (green1 : green ≤ (9223372036854775807 : Int)) (busy : Int) (busy0 : (-9223372036854775808 : Int) ≤ busy) (busy1 : busy ≤ (9223372036854775807 : Int)) (came : Int) (came0 : (-9223372036854775808 : Int) ≤ came) (came1 : came ≤ (9223372036854775807 : Int)) (headway : Int) (headway0 : (-9223372036854775808 : Int) ≤ headway) (headway1 : headway ≤ (9223372036854775807 : Int)) (k : AV → List (Option Blk) → List Blk → Prop) (hk : ∀ (v e : Int), v = loadV green busy came headway → e = loadE green busy came headway → (0 : Int) ≤ v ∧ v ≤ (65536 : Int) → e = (0 : Int) ∨ e = (2 : Int) → k (AV.tup [AV.int IntKind.i64 v, AV.int IntKind.i64 e]) [] []) :
  br (decide (green < (0 : Int)))
   (br (decide (green < (0 : Int)))
     ((k (AV.tup [AV.int IntKind.i64 (0 : Int), AV.int IntKind.i64 (2 : Int)]) [] []))
     (br (green == (0 : Int))
       ((k (AV.tup [AV.int IntKind.i64 (0 : Int), AV.int IntKind.i64 (0 : Int)]) [] []))
       (∀ (n1 : Int),
        (n1 = IntKind.i64.wrap (came * headway)) →
        ((-9223372036854775808 : Int) ≤ n1 ∧ n1 ≤ (9223372036854775807 : Int)) →
        ∀ (n4 : Int),
        (n4 = IntKind.i64.wrap (busy + n1)) →
        ((-9223372036854775808 : Int) ≤ n4 ∧ n4 ≤ (9223372036854775807 : Int)) →
        ∀ (n7 : Int),
        (n7 = min green n4) →
        ((-9223372036854775808 : Int) ≤ n7 ∧ n7 ≤ (9223372036854775807 : Int)) →
        (
         ((-9223372036854775808 : Int) ≤ n7) ∧
         (n7 ≤ (9223372036854775807 : Int))) ∧
        ∀ (r_10 : Int),
        (r_10 = ofI n7) →
        ((-70368744177664 : Int) ≤ r_10 ∧ r_10 ≤ (70368744177664 : Int)) →
        (
         ((-9223372036854775808 : Int) ≤ green) ∧
         (green ≤ (9223372036854775807 : Int))) ∧
        ∀ (r_13 : Int),
        (r_13 = ofI green) →
        ((-70368744177664 : Int) ≤ r_13 ∧ r_13 ≤ (70368744177664 : Int)) →
        (
         ((-9223372036854775808 : Int) ≤ r_10) ∧
         (r_10 ≤ (9223372036854775807 : Int))) ∧
        (
         ((-9223372036854775808 : Int) ≤ r_13) ∧
         (r_13 ≤ (9223372036854775807 : Int))) ∧
        ∀ (q_16 : Int),
        ∀ (e_17 : Int),
        (q_16 = divQ r_10 r_13) →
        (e_17 = divE r_13) →
        ((-70368744177664 : Int) ≤ q_16 ∧ q_16 ≤ (70368744177664 : Int)) →
        (e_17 = (0 : Int) ∨ e_17 = (10 : Int)) →
        (k (AV.tup [AV.int IntKind.i64 q_16, AV.int IntKind.i64 e_17]) [] []))))
   (br (decide (green > (1048576 : Int)))
     (br (decide (green > (1048576 : Int)))
       ((k (AV.tup [AV.int IntKind.i64 (0 : Int), AV.int IntKind.i64 (2 : Int)]) [] []))
       (br (green == (0 : Int))
         ((k (AV.tup [AV.int IntKind.i64 (0 : Int), AV.int IntKind.i64 (0 : Int)]) [] []))
         (∀ (n22 : Int),
          (n22 = IntKind.i64.wrap (came * headway)) →
          ((-9223372036854775808 : Int) ≤ n22 ∧ n22 ≤ (9223372036854775807 : Int)) →
          ∀ (n25 : Int),
          (n25 = IntKind.i64.wrap (busy + n22)) →
          ((-9223372036854775808 : Int) ≤ n25 ∧ n25 ≤ (9223372036854775807 : Int)) →
          ∀ (n28 : Int),
          (n28 = min green n25) →
          ((-9223372036854775808 : Int) ≤ n28 ∧ n28 ≤ (9223372036854775807 : Int)) →
          (
           ((-9223372036854775808 : Int) ≤ n28) ∧
           (n28 ≤ (9223372036854775807 : Int))) ∧
          ∀ (r_31 : Int),
          (r_31 = ofI n28) →
          ((-70368744177664 : Int) ≤ r_31 ∧ r_31 ≤ (70368744177664 : Int)) →
          (
           ((-9223372036854775808 : Int) ≤ green) ∧
           (green ≤ (9223372036854775807 : Int))) ∧
          ∀ (r_34 : Int),
          (r_34 = ofI green) →
          ((-70368744177664 : Int) ≤ r_34 ∧ r_34 ≤ (70368744177664 : Int)) →
          (
           ((-9223372036854775808 : Int) ≤ r_31) ∧
           (r_31 ≤ (9223372036854775807 : Int))) ∧
          (
           ((-9223372036854775808 : Int) ≤ r_34) ∧
           (r_34 ≤ (9223372036854775807 : Int))) ∧
          ∀ (q_37 : Int),
          ∀ (e_38 : Int),
          (q_37 = divQ r_31 r_34) →
          (e_38 = divE r_34) →
          ((-70368744177664 : Int) ≤ q_37 ∧ q_37 ≤ (70368744177664 : Int)) →
          (e_38 = (0 : Int) ∨ e_38 = (10 : Int)) →
          (k (AV.tup [AV.int IntKind.i64 q_37, AV.int IntKind.i64 e_38]) [] []))))
     (br (decide (busy < (0 : Int)))
       (br (decide (busy < (0 : Int)))
         ((k (AV.tup [AV.int IntKind.i64 (0 : Int), AV.int IntKind.i64 (2 : Int)]) [] []))
         (br (green == (0 : Int))
           ((k (AV.tup [AV.int IntKind.i64 (0 : Int), AV.int IntKind.i64 (0 : Int)]) [] []))
           (∀ (n43 : Int),
            (n43 = IntKind.i64.wrap (came * headway)) →
            ((-9223372036854775808 : Int) ≤ n43 ∧ n43 ≤ (9223372036854775807 : Int)) →
            ∀ (n46 : Int),
            (n46 = IntKind.i64.wrap (busy + n43)) →
            ((-9223372036854775808 : Int) ≤ n46 ∧ n46 ≤ (9223372036854775807 : Int)) →
            ∀ (n49 : Int),
            (n49 = min green n46) →
            ((-9223372036854775808 : Int) ≤ n49 ∧ n49 ≤ (9223372036854775807 : Int)) →
            (
             ((-9223372036854775808 : Int) ≤ n49) ∧
             (n49 ≤ (9223372036854775807 : Int))) ∧
            ∀ (r_52 : Int),
            (r_52 = ofI n49) →
            ((-70368744177664 : Int) ≤ r_52 ∧ r_52 ≤ (70368744177664 : Int)) →
            (
             ((-9223372036854775808 : Int) ≤ green) ∧
             (green ≤ (9223372036854775807 : Int))) ∧
            ∀ (r_55 : Int),
            (r_55 = ofI green) →
            ((-70368744177664 : Int) ≤ r_55 ∧ r_55 ≤ (70368744177664 : Int)) →
            (
             ((-9223372036854775808 : Int) ≤ r_52) ∧
             (r_52 ≤ (9223372036854775807 : Int))) ∧
            (
             ((-9223372036854775808 : Int) ≤ r_55) ∧
             (r_55 ≤ (9223372036854775807 : Int))) ∧
            ∀ (q_58 : Int),
            ∀ (e_59 : Int),
            (q_58 = divQ r_52 r_55) →
            (e_59 = divE r_55) →
            ((-70368744177664 : Int) ≤ q_58 ∧ q_58 ≤ (70368744177664 : Int)) →
            (e_59 = (0 : Int) ∨ e_59 = (10 : Int)) →
            (k (AV.tup [AV.int IntKind.i64 q_58, AV.int IntKind.i64 e_59]) [] []))))
       (br (decide (busy > green))
         (br (decide (busy > green))
           ((k (AV.tup [AV.int IntKind.i64 (0 : Int), AV.int IntKind.i64 (2 : Int)]) [] []))
           (br (green == (0 : Int))
             ((k (AV.tup [AV.int IntKind.i64 (0 : Int), AV.int IntKind.i64 (0 : Int)]) [] []))
             (∀ (n64 : Int),
              (n64 = IntKind.i64.wrap (came * headway)) →
              ((-9223372036854775808 : Int) ≤ n64 ∧ n64 ≤ (9223372036854775807 : Int)) →
              ∀ (n67 : Int),
              (n67 = IntKind.i64.wrap (busy + n64)) →
              ((-9223372036854775808 : Int) ≤ n67 ∧ n67 ≤ (9223372036854775807 : Int)) →
              ∀ (n70 : Int),
              (n70 = min green n67) →
              ((-9223372036854775808 : Int) ≤ n70 ∧ n70 ≤ (9223372036854775807 : Int)) →
              (
               ((-9223372036854775808 : Int) ≤ n70) ∧
               (n70 ≤ (9223372036854775807 : Int))) ∧
              ∀ (r_73 : Int),
              (r_73 = ofI n70) →
              ((-70368744177664 : Int) ≤ r_73 ∧ r_73 ≤ (70368744177664 : Int)) →
              (
               ((-9223372036854775808 : Int) ≤ green) ∧
               (green ≤ (9223372036854775807 : Int))) ∧
              ∀ (r_76 : Int),
              (r_76 = ofI green) →
              ((-70368744177664 : Int) ≤ r_76 ∧ r_76 ≤ (70368744177664 : Int)) →
              (
               ((-9223372036854775808 : Int) ≤ r_73) ∧
               (r_73 ≤ (9223372036854775807 : Int))) ∧
              (
               ((-9223372036854775808 : Int) ≤ r_76) ∧
               (r_76 ≤ (9223372036854775807 : Int))) ∧
              ∀ (q_79 : Int),
              ∀ (e_80 : Int),
              (q_79 = divQ r_73 r_76) →
              (e_80 = divE r_76) →
              ((-70368744177664 : Int) ≤ q_79 ∧ q_79 ≤ (70368744177664 : Int)) →
              (e_80 = (0 : Int) ∨ e_80 = (10 : Int)) →
              (k (AV.tup [AV.int IntKind.i64 q_79, AV.int IntKind.i64 e_80]) [] []))))
         (br (decide (came < (0 : Int)))
           (br (decide (came < (0 : Int)))
             ((k (AV.tup [AV.int IntKind.i64 (0 : Int), AV.int IntKind.i64 (2 : Int)]) [] []))
             (br (green == (0 : Int))
               ((k (AV.tup [AV.int IntKind.i64 (0 : Int), AV.int IntKind.i64 (0 : Int)]) [] []))
               (∀ (n85 : Int),
                (n85 = IntKind.i64.wrap (came * headway)) →
                ((-9223372036854775808 : Int) ≤ n85 ∧ n85 ≤ (9223372036854775807 : Int)) →
                ∀ (n88 : Int),
                (n88 = IntKind.i64.wrap (busy + n85)) →
                ((-9223372036854775808 : Int) ≤ n88 ∧ n88 ≤ (9223372036854775807 : Int)) →
                ∀ (n91 : Int),
                (n91 = min green n88) →
                ((-9223372036854775808 : Int) ≤ n91 ∧ n91 ≤ (9223372036854775807 : Int)) →
                (
                 ((-9223372036854775808 : Int) ≤ n91) ∧
                 (n91 ≤ (9223372036854775807 : Int))) ∧
                ∀ (r_94 : Int),
                (r_94 = ofI n91) →
                ((-70368744177664 : Int) ≤ r_94 ∧ r_94 ≤ (70368744177664 : Int)) →
                (
                 ((-9223372036854775808 : Int) ≤ green) ∧
                 (green ≤ (9223372036854775807 : Int))) ∧
                ∀ (r_97 : Int),
                (r_97 = ofI green) →
                ((-70368744177664 : Int) ≤ r_97 ∧ r_97 ≤ (70368744177664 : Int)) →
                (
                 ((-9223372036854775808 : Int) ≤ r_94) ∧
                 (r_94 ≤ (9223372036854775807 : Int))) ∧
                (
                 ((-9223372036854775808 : Int) ≤ r_97) ∧
                 (r_97 ≤ (9223372036854775807 : Int))) ∧
                ∀ (q_100 : Int),
                ∀ (e_101 : Int),
                (q_100 = divQ r_94 r_97) →
                (e_101 = divE r_97) →
                ((-70368744177664 : Int) ≤ q_100 ∧ q_100 ≤ (70368744177664 : Int)) →
                (e_101 = (0 : Int) ∨ e_101 = (10 : Int)) →
                (k (AV.tup [AV.int IntKind.i64 q_100, AV.int IntKind.i64 e_101]) [] []))))
           (br (decide (came > (1073741824 : Int)))
             (br (decide (came > (1073741824 : Int)))
               ((k (AV.tup [AV.int IntKind.i64 (0 : Int), AV.int IntKind.i64 (2 : Int)]) [] []))
               (br (green == (0 : Int))
                 ((k (AV.tup [AV.int IntKind.i64 (0 : Int), AV.int IntKind.i64 (0 : Int)]) [] []))
                 (∀ (n106 : Int),
                  (n106 = IntKind.i64.wrap (came * headway)) →
                  ((-9223372036854775808 : Int) ≤ n106 ∧ n106 ≤ (9223372036854775807 : Int)) →
                  ∀ (n109 : Int),
                  (n109 = IntKind.i64.wrap (busy + n106)) →
                  ((-9223372036854775808 : Int) ≤ n109 ∧ n109 ≤ (9223372036854775807 : Int)) →
                  ∀ (n112 : Int),
                  (n112 = min green n109) →
                  ((-9223372036854775808 : Int) ≤ n112 ∧ n112 ≤ (9223372036854775807 : Int)) →
                  (
                   ((-9223372036854775808 : Int) ≤ n112) ∧
                   (n112 ≤ (9223372036854775807 : Int))) ∧
                  ∀ (r_115 : Int),
                  (r_115 = ofI n112) →
                  ((-70368744177664 : Int) ≤ r_115 ∧ r_115 ≤ (70368744177664 : Int)) →
                  (
                   ((-9223372036854775808 : Int) ≤ green) ∧
                   (green ≤ (9223372036854775807 : Int))) ∧
                  ∀ (r_118 : Int),
                  (r_118 = ofI green) →
                  ((-70368744177664 : Int) ≤ r_118 ∧ r_118 ≤ (70368744177664 : Int)) →
                  (
                   ((-9223372036854775808 : Int) ≤ r_115) ∧
                   (r_115 ≤ (9223372036854775807 : Int))) ∧
                  (
                   ((-9223372036854775808 : Int) ≤ r_118) ∧
                   (r_118 ≤ (9223372036854775807 : Int))) ∧
                  ∀ (q_121 : Int),
                  ∀ (e_122 : Int),
                  (q_121 = divQ r_115 r_118) →
                  (e_122 = divE r_118) →
                  ((-70368744177664 : Int) ≤ q_121 ∧ q_121 ≤ (70368744177664 : Int)) →
                  (e_122 = (0 : Int) ∨ e_122 = (10 : Int)) →
                  (k (AV.tup [AV.int IntKind.i64 q_121, AV.int IntKind.i64 e_122]) [] []))))
             (br (decide (headway < (0 : Int)))
               (br (decide (headway < (0 : Int)))
                 ((k (AV.tup [AV.int IntKind.i64 (0 : Int), AV.int IntKind.i64 (2 : Int)]) [] []))
                 (br (green == (0 : Int))
                   ((k (AV.tup [AV.int IntKind.i64 (0 : Int), AV.int IntKind.i64 (0 : Int)]) [] []))
                   (∀ (n127 : Int),
                    (n127 = IntKind.i64.wrap (came * headway)) →
                    ((-9223372036854775808 : Int) ≤ n127 ∧ n127 ≤ (9223372036854775807 : Int)) →
                    ∀ (n130 : Int),
                    (n130 = IntKind.i64.wrap (busy + n127)) →
                    ((-9223372036854775808 : Int) ≤ n130 ∧ n130 ≤ (9223372036854775807 : Int)) →
                    ∀ (n133 : Int),
                    (n133 = min green n130) →
                    ((-9223372036854775808 : Int) ≤ n133 ∧ n133 ≤ (9223372036854775807 : Int)) →
                    (
                     ((-9223372036854775808 : Int) ≤ n133) ∧
                     (n133 ≤ (9223372036854775807 : Int))) ∧
                    ∀ (r_136 : Int),
                    (r_136 = ofI n133) →
                    ((-70368744177664 : Int) ≤ r_136 ∧ r_136 ≤ (70368744177664 : Int)) →
                    (
                     ((-9223372036854775808 : Int) ≤ green) ∧
                     (green ≤ (9223372036854775807 : Int))) ∧
                    ∀ (r_139 : Int),
                    (r_139 = ofI green) →
                    ((-70368744177664 : Int) ≤ r_139 ∧ r_139 ≤ (70368744177664 : Int)) →
                    (
                     ((-9223372036854775808 : Int) ≤ r_136) ∧
                     (r_136 ≤ (9223372036854775807 : Int))) ∧
                    (
                     ((-9223372036854775808 : Int) ≤ r_139) ∧
                     (r_139 ≤ (9223372036854775807 : Int))) ∧
                    ∀ (q_142 : Int),
                    ∀ (e_143 : Int),
                    (q_142 = divQ r_136 r_139) →
                    (e_143 = divE r_139) →
                    ((-70368744177664 : Int) ≤ q_142 ∧ q_142 ≤ (70368744177664 : Int)) →
                    (e_143 = (0 : Int) ∨ e_143 = (10 : Int)) →
                    (k (AV.tup [AV.int IntKind.i64 q_142, AV.int IntKind.i64 e_143]) [] []))))
               (br (decide (headway > (1048576 : Int)))
                 ((k (AV.tup [AV.int IntKind.i64 (0 : Int), AV.int IntKind.i64 (2 : Int)]) [] []))
                 (br (green == (0 : Int))
                   ((k (AV.tup [AV.int IntKind.i64 (0 : Int), AV.int IntKind.i64 (0 : Int)]) [] []))
                   (∀ (n148 : Int),
                    (n148 = IntKind.i64.wrap (came * headway)) →
                    ((-9223372036854775808 : Int) ≤ n148 ∧ n148 ≤ (9223372036854775807 : Int)) →
                    ∀ (n151 : Int),
                    (n151 = IntKind.i64.wrap (busy + n148)) →
                    ((-9223372036854775808 : Int) ≤ n151 ∧ n151 ≤ (9223372036854775807 : Int)) →
                    ∀ (n154 : Int),
                    (n154 = min green n151) →
                    ((-9223372036854775808 : Int) ≤ n154 ∧ n154 ≤ (9223372036854775807 : Int)) →
                    (
                     ((-9223372036854775808 : Int) ≤ n154) ∧
                     (n154 ≤ (9223372036854775807 : Int))) ∧
                    ∀ (r_157 : Int),
                    (r_157 = ofI n154) →
                    ((-70368744177664 : Int) ≤ r_157 ∧ r_157 ≤ (70368744177664 : Int)) →
                    (
                     ((-9223372036854775808 : Int) ≤ green) ∧
                     (green ≤ (9223372036854775807 : Int))) ∧
                    ∀ (r_160 : Int),
                    (r_160 = ofI green) →
                    ((-70368744177664 : Int) ≤ r_160 ∧ r_160 ≤ (70368744177664 : Int)) →
                    (
                     ((-9223372036854775808 : Int) ≤ r_157) ∧
                     (r_157 ≤ (9223372036854775807 : Int))) ∧
                    (
                     ((-9223372036854775808 : Int) ≤ r_160) ∧
                     (r_160 ≤ (9223372036854775807 : Int))) ∧
                    ∀ (q_163 : Int),
                    ∀ (e_164 : Int),
                    (q_163 = divQ r_157 r_160) →
                    (e_164 = divE r_160) →
                    ((-70368744177664 : Int) ≤ q_163 ∧ q_163 ≤ (70368744177664 : Int)) →
                    (e_164 = (0 : Int) ∨ e_164 = (10 : Int)) →
                    (k (AV.tup [AV.int IntKind.i64 q_163, AV.int IntKind.i64 e_164]) [] [])))))))))) := by
  refine brd (fun c1 => ?_) (fun c1 => ?_) -- decide (green < (0 : Int))
  · -- yes
    refine brd (fun c2 => ?_) (fun c2 => ?_) -- decide (green < (0 : Int))
    · -- yes
      exact by exact hk 0 2 (by unfold loadV; rw [if_neg (by unfold loadOk; omega)]) (by unfold loadE; rw [if_neg (by unfold loadOk; omega)]) (by omega) (by omega) -- k (AV.tup [AV.int IntKind.i64 (0 : Int), AV.int IntKind.i64 (2 : Int)]) [] []
    · -- no
      exfalso; omega
  · -- no
    refine brd (fun c3 => ?_) (fun c3 => ?_) -- decide (green > (1048576 : Int))
    · -- yes
      refine brd (fun c4 => ?_) (fun c4 => ?_) -- decide (green > (1048576 : Int))
      · -- yes
        exact by exact hk 0 2 (by unfold loadV; rw [if_neg (by unfold loadOk; omega)]) (by unfold loadE; rw [if_neg (by unfold loadOk; omega)]) (by omega) (by omega) -- k (AV.tup [AV.int IntKind.i64 (0 : Int), AV.int IntKind.i64 (2 : Int)]) [] []
      · -- no
        exfalso; omega
    · -- no
      refine brd (fun c5 => ?_) (fun c5 => ?_) -- decide (busy < (0 : Int))
      · -- yes
        refine brd (fun c6 => ?_) (fun c6 => ?_) -- decide (busy < (0 : Int))
        · -- yes
          exact by exact hk 0 2 (by unfold loadV; rw [if_neg (by unfold loadOk; omega)]) (by unfold loadE; rw [if_neg (by unfold loadOk; omega)]) (by omega) (by omega) -- k (AV.tup [AV.int IntKind.i64 (0 : Int), AV.int IntKind.i64 (2 : Int)]) [] []
        · -- no
          exfalso; omega
      · -- no
        refine brd (fun c7 => ?_) (fun c7 => ?_) -- decide (busy > green)
        · -- yes
          refine brd (fun c8 => ?_) (fun c8 => ?_) -- decide (busy > green)
          · -- yes
            exact by exact hk 0 2 (by unfold loadV; rw [if_neg (by unfold loadOk; omega)]) (by unfold loadE; rw [if_neg (by unfold loadOk; omega)]) (by omega) (by omega) -- k (AV.tup [AV.int IntKind.i64 (0 : Int), AV.int IntKind.i64 (2 : Int)]) [] []
          · -- no
            exfalso; omega
        · -- no
          refine brd (fun c9 => ?_) (fun c9 => ?_) -- decide (came < (0 : Int))
          · -- yes
            refine brd (fun c10 => ?_) (fun c10 => ?_) -- decide (came < (0 : Int))
            · -- yes
              exact by exact hk 0 2 (by unfold loadV; rw [if_neg (by unfold loadOk; omega)]) (by unfold loadE; rw [if_neg (by unfold loadOk; omega)]) (by omega) (by omega) -- k (AV.tup [AV.int IntKind.i64 (0 : Int), AV.int IntKind.i64 (2 : Int)]) [] []
            · -- no
              exfalso; omega
          · -- no
            refine brd (fun c11 => ?_) (fun c11 => ?_) -- decide (came > (1073741824 : Int))
            · -- yes
              refine brd (fun c12 => ?_) (fun c12 => ?_) -- decide (came > (1073741824 : Int))
              · -- yes
                exact by exact hk 0 2 (by unfold loadV; rw [if_neg (by unfold loadOk; omega)]) (by unfold loadE; rw [if_neg (by unfold loadOk; omega)]) (by omega) (by omega) -- k (AV.tup [AV.int IntKind.i64 (0 : Int), AV.int IntKind.i64 (2 : Int)]) [] []
              · -- no
                exfalso; omega
            · -- no
              refine brd (fun c13 => ?_) (fun c13 => ?_) -- decide (headway < (0 : Int))
              · -- yes
                refine brd (fun c14 => ?_) (fun c14 => ?_) -- decide (headway < (0 : Int))
                · -- yes
                  exact by exact hk 0 2 (by unfold loadV; rw [if_neg (by unfold loadOk; omega)]) (by unfold loadE; rw [if_neg (by unfold loadOk; omega)]) (by omega) (by omega) -- k (AV.tup [AV.int IntKind.i64 (0 : Int), AV.int IntKind.i64 (2 : Int)]) [] []
                · -- no
                  exfalso; omega
              · -- no
                refine brd (fun c15 => ?_) (fun c15 => ?_) -- decide (headway > (1048576 : Int))
                · -- yes
                  exact by exact hk 0 2 (by unfold loadV; rw [if_neg (by unfold loadOk; omega)]) (by unfold loadE; rw [if_neg (by unfold loadOk; omega)]) (by omega) (by omega) -- k (AV.tup [AV.int IntKind.i64 (0 : Int), AV.int IntKind.i64 (2 : Int)]) [] []
                · -- no
                  refine br_intro (fun c16 => ?_) (fun c16 => ?_) -- green == (0 : Int)
                  · -- yes
                    simp at c16 -- green = (0 : Int)
                    exact by exact hk 0 0 (by unfold loadV; rw [if_pos (by unfold loadOk; omega), if_pos (by omega)]) (by unfold loadE; rw [if_pos (by unfold loadOk; omega)]) (by omega) (by omega) -- k (AV.tup [AV.int IntKind.i64 (0 : Int), AV.int IntKind.i64 (0 : Int)]) [] []
                  · -- no
                    simp at c16 -- ¬green = (0 : Int)
                    intro n148
                    intro q148 -- n148 = IntKind.i64.wrap (came * headway)
                    rw [IntKind.wrap_i64] at q148
                    intro ⟨l148, u148⟩ -- (-9223372036854775808 : Int) ≤ n148 ∧ n148 ≤ (9223372036854775807 : Int)
                    intro n151
                    intro q151 -- n151 = IntKind.i64.wrap (busy + n148)
                    rw [IntKind.wrap_i64] at q151
                    intro ⟨l151, u151⟩ -- (-9223372036854775808 : Int) ≤ n151 ∧ n151 ≤ (9223372036854775807 : Int)
                    intro n154
                    intro q154 -- n154 = min green n151
                    intro ⟨l154, u154⟩ -- (-9223372036854775808 : Int) ≤ n154 ∧ n154 ≤ (9223372036854775807 : Int)
                    refine ⟨by exact ⟨by assumption, by assumption⟩, ?_⟩ -- (-9223372036854775808 : Int) ≤ n154 ∧ n154 ≤ (9223372036854775807 : Int)
                    intro r_157
                    intro h17 -- r_157 = ofI n154
                    intro ⟨a18, b18⟩ -- (-70368744177664 : Int) ≤ r_157 ∧ r_157 ≤ (70368744177664 : Int)
                    refine ⟨by exact ⟨by assumption, by assumption⟩, ?_⟩ -- (-9223372036854775808 : Int) ≤ green ∧ green ≤ (9223372036854775807 : Int)
                    intro r_160
                    intro h19 -- r_160 = ofI green
                    intro ⟨a20, b20⟩ -- (-70368744177664 : Int) ≤ r_160 ∧ r_160 ≤ (70368744177664 : Int)
                    refine ⟨by omega, ?_⟩ -- (-9223372036854775808 : Int) ≤ r_157 ∧ r_157 ≤ (9223372036854775807 : Int)
                    refine ⟨by omega, ?_⟩ -- (-9223372036854775808 : Int) ≤ r_160 ∧ r_160 ≤ (9223372036854775807 : Int)
                    intro q_163
                    intro e_164
                    intro h21 -- q_163 = divQ r_157 r_160
                    intro h22 -- e_164 = divE r_160
                    intro ⟨a23, b23⟩ -- (-70368744177664 : Int) ≤ q_163 ∧ q_163 ≤ (70368744177664 : Int)
                    intro h24 -- e_164 = (0 : Int) ∨ e_164 = (10 : Int)
                    -- k (AV.tup [AV.int IntKind.i64 q_163, AV.int IntKind.i64 e_164]) [] []
                    have p := prod_bd (c := came) (h := headway) (by omega) (by omega)
                    have e1 : n154 = min green (busy + came * headway) := by omega
                    have d := div_of (g := green) (m := n154) (by omega) (by omega)
                    rw [← h17, ← h19] at d
                    have vb := loadV_bd green busy came headway
                    have ok : loadOk green busy came headway := by unfold loadOk; omega
                    have ev : q_163 = loadV green busy came headway := by unfold loadV; rw [if_pos ok, if_neg c16, h21, d.1, e1]
                    have ee : e_164 = 0 := by rw [h22, d.2]
                    rw [ee]
                    exact hk _ 0 ev (by unfold loadE; rw [if_pos ok]) (by rw [ev]; exact vb) (by omega)

theorem load_ok : Holds Try.prog 9 loadS := by
  refine fn_sound (env := mkEnv T3) (tab_ok T3_ok) Try.func9 Try.call9 fun args k h => ?_
  match args, h with
  | [.int .i64 green, .int .i64 busy, .int .i64 came, .int .i64 headway], h => exact ⟨by kernel_rfl, fun _ _ => none, fun _ _ => none, .cast (by kernel_rfl) (load_vc green h.1.1 h.1.2 busy h.2.1.1 h.2.1.2 came h.2.2.1.1 h.2.2.1.2 headway h.2.2.2.1.1 h.2.2.2.1.2 k h.2.2.2.2)⟩
set_option maxHeartbeats 2000000 in
theorem rload_vc (green : Int) (green0 : (-9223372036854775808 : Int) ≤ green) (green1 : green ≤ (9223372036854775807 : Int)) (busy : Int) (busy0 : (-9223372036854775808 : Int) ≤ busy) (busy1 : busy ≤ (9223372036854775807 : Int)) (came : Int) (came0 : (-9223372036854775808 : Int) ≤ came) (came1 : came ≤ (9223372036854775807 : Int)) (headway : Int) (headway0 : (-9223372036854775808 : Int) ≤ headway) (headway1 : headway ≤ (9223372036854775807 : Int)) (k : AV → List (Option Blk) → List Blk → Prop) (hk : ∀ (v e : Int), v = loadV green busy came headway → e = loadE green busy came headway → (0 : Int) ≤ v ∧ v ≤ (65536 : Int) → e = (0 : Int) ∨ e = (2 : Int) → k (AV.tup [AV.int IntKind.i64 v, AV.int IntKind.i64 e]) [] []) :
  br (bif bif bif bif bif bif bif decide (green < (0 : Int)) then true else decide (green > (1048576 : Int)) then true else decide (busy < (0 : Int)) then true else decide (busy > green) then true else decide (came < (0 : Int)) then true else decide (came > (1073741824 : Int)) then true else decide (headway < (0 : Int)) then true else decide (headway > (1048576 : Int)))
   ((k (AV.tup [AV.int IntKind.i64 (0 : Int), AV.int IntKind.i64 (2 : Int)]) [] []))
   ((
     ((-9223372036854775808 : Int) ≤ green) ∧
     (green ≤ (9223372036854775807 : Int))) ∧
    (
     ((-9223372036854775808 : Int) ≤ busy) ∧
     (busy ≤ (9223372036854775807 : Int))) ∧
    (
     ((-9223372036854775808 : Int) ≤ came) ∧
     (came ≤ (9223372036854775807 : Int))) ∧
    (
     ((-9223372036854775808 : Int) ≤ headway) ∧
     (headway ≤ (9223372036854775807 : Int))) ∧
    (
     (
      ((0 : Int) ≤ green) ∧
      (green ≤ (1048576 : Int))) ∧
     (
      ((0 : Int) ≤ busy) ∧
      (busy ≤ green)) ∧
     (
      ((0 : Int) ≤ came) ∧
      (came ≤ (1073741824 : Int))) ∧
     ((0 : Int) ≤ headway) ∧
     (headway ≤ (1048576 : Int))) ∧
    ∀ (v_1 : Int),
    (v_1 = loadV green busy came headway) →
    ((0 : Int) ≤ v_1 ∧ v_1 ≤ (65536 : Int)) →
    (k (AV.tup [AV.int IntKind.i64 v_1, AV.int IntKind.i64 (0 : Int)]) [] [])) := by
  refine br_intro (fun c1 => ?_) (fun c1 => ?_) -- bif bif bif bif bif bif bif decide (green < (0 : Int)) then true else decide (green > (1048576 : Int)) then true else decide (busy < (0 : Int)) then true else decide (busy > green) then true else decide (came < (0 : Int)) then true else decide (came > (1073741824 : Int)) then true else decide (headway < (0 : Int)) then true else decide (headway > (1048576 : Int))
  · -- yes
    simp at c1 -- ((((((green < (0 : Int) ∨ (1048576 : Int) < green) ∨ busy < (0 : Int)) ∨ green < busy) ∨ came < (0 : Int)) ∨ (1073741824 : Int) < came) ∨ headway < (0 : Int)) ∨ (1048576 : Int) < headway
    exact by exact hk 0 2 (by unfold loadV; rw [if_neg (by unfold loadOk; omega)]) (by unfold loadE; rw [if_neg (by unfold loadOk; omega)]) (by omega) (by omega) -- k (AV.tup [AV.int IntKind.i64 (0 : Int), AV.int IntKind.i64 (2 : Int)]) [] []
  · -- no
    simp at c1 -- (((((((0 : Int) ≤ green ∧ green ≤ (1048576 : Int)) ∧ (0 : Int) ≤ busy) ∧ busy ≤ green) ∧ (0 : Int) ≤ came) ∧ came ≤ (1073741824 : Int)) ∧ (0 : Int) ≤ headway) ∧ headway ≤ (1048576 : Int)
    refine ⟨by exact ⟨by assumption, by assumption⟩, ?_⟩ -- (-9223372036854775808 : Int) ≤ green ∧ green ≤ (9223372036854775807 : Int)
    refine ⟨by exact ⟨by assumption, by assumption⟩, ?_⟩ -- (-9223372036854775808 : Int) ≤ busy ∧ busy ≤ (9223372036854775807 : Int)
    refine ⟨by exact ⟨by assumption, by assumption⟩, ?_⟩ -- (-9223372036854775808 : Int) ≤ came ∧ came ≤ (9223372036854775807 : Int)
    refine ⟨by exact ⟨by assumption, by assumption⟩, ?_⟩ -- (-9223372036854775808 : Int) ≤ headway ∧ headway ≤ (9223372036854775807 : Int)
    refine ⟨?_, ?_⟩
    · -- left
      refine ⟨by omega, ?_⟩ -- (0 : Int) ≤ green ∧ green ≤ (1048576 : Int)
      refine ⟨by omega, ?_⟩ -- (0 : Int) ≤ busy ∧ busy ≤ green
      refine ⟨by omega, ?_⟩ -- (0 : Int) ≤ came ∧ came ≤ (1073741824 : Int)
      refine ⟨by omega, ?_⟩ -- (0 : Int) ≤ headway
      exact by omega -- headway ≤ (1048576 : Int)
    intro v_1
    intro h2 -- v_1 = loadV green busy came headway
    intro ⟨a3, b3⟩ -- (0 : Int) ≤ v_1 ∧ v_1 ≤ (65536 : Int)
    exact by exact hk _ 0 h2 (by unfold loadE; rw [if_pos (by unfold loadOk; omega)]) ⟨a3, b3⟩ (by omega) -- k (AV.tup [AV.int IntKind.i64 v_1, AV.int IntKind.i64 (0 : Int)]) [] []

theorem rload_ok : Holds Try.prog 10 loadS := by
  refine fn_sound (env := mkEnv T3) (tab_ok T3_ok) Try.func10 Try.call10 fun args k h => ?_
  match args, h with
  | [.int .i64 green, .int .i64 busy, .int .i64 came, .int .i64 headway], h => exact ⟨by kernel_rfl, fun _ _ => none, fun _ _ => none, .cast (by kernel_rfl) (rload_vc green h.1.1 h.1.2 busy h.2.1.1 h.2.1.2 came h.2.2.1.1 h.2.2.1.2 headway h.2.2.2.1.1 h.2.2.2.1.2 k h.2.2.2.2)⟩
set_option maxHeartbeats 2000000 in
theorem smooth_vc (a : Int) (a0 : (-9223372036854775808 : Int) ≤ a) (a1 : a ≤ (9223372036854775807 : Int)) (b : Int) (b0 : (-9223372036854775808 : Int) ≤ b) (b1 : b ≤ (9223372036854775807 : Int)) (c : Int) (c0 : (-9223372036854775808 : Int) ≤ c) (c1 : c ≤ (9223372036854775807 : Int)) (k : AV → List (Option Blk) → List Blk → Prop) (hk : ∀ (v e : Int), v = smoothV a b c → e = smoothE a b c → (0 : Int) ≤ v ∧ v ≤ (65536 : Int) → e = (0 : Int) ∨ e = (2 : Int) → k (AV.tup [AV.int IntKind.i64 v, AV.int IntKind.i64 e]) [] []) :
  (
   ((-9223372036854775808 : Int) ≤ a) ∧
   (a ≤ (9223372036854775807 : Int))) ∧
  br (!decide ((0 : Int) ≤ a ∧ a ≤ (65536 : Int)))
   ((true = true) ∧
    (true = true) ∧
    (k (AV.tup [AV.int IntKind.i64 (0 : Int), AV.int IntKind.i64 (2 : Int)]) [] []))
   ((
     ((-9223372036854775808 : Int) ≤ b) ∧
     (b ≤ (9223372036854775807 : Int))) ∧
    br (bif false then true else !decide ((0 : Int) ≤ b ∧ b ≤ (65536 : Int)))
     ((true = true) ∧
      (k (AV.tup [AV.int IntKind.i64 (0 : Int), AV.int IntKind.i64 (2 : Int)]) [] []))
     ((
       ((-9223372036854775808 : Int) ≤ c) ∧
       (c ≤ (9223372036854775807 : Int))) ∧
      br (bif false then true else !decide ((0 : Int) ≤ c ∧ c ≤ (65536 : Int)))
       ((k (AV.tup [AV.int IntKind.i64 (0 : Int), AV.int IntKind.i64 (2 : Int)]) [] []))
       ((
         ((-9223372036854775808 : Int) ≤ a) ∧
         (a ≤ (9223372036854775807 : Int))) ∧
        (
         ((-9223372036854775808 : Int) ≤ b) ∧
         (b ≤ (9223372036854775807 : Int))) ∧
        (
         ((-9223372036854775808 : Int) ≤ c) ∧
         (c ≤ (9223372036854775807 : Int))) ∧
        ∀ (r_1 : Int),
        (r_1 = mixI a b c) →
        ((-70368744177664 : Int) ≤ r_1 ∧ r_1 ≤ (70368744177664 : Int)) →
        (k (AV.tup [AV.int IntKind.i64 r_1, AV.int IntKind.i64 (0 : Int)]) [] [])))) := by
  refine ⟨by exact ⟨by assumption, by assumption⟩, ?_⟩ -- (-9223372036854775808 : Int) ≤ a ∧ a ≤ (9223372036854775807 : Int)
  refine br_intro (fun c1 => ?_) (fun c1 => ?_) -- !decide ((0 : Int) ≤ a ∧ a ≤ (65536 : Int))
  · -- yes
    simp at c1 -- a < (0 : Int) ∨ (65536 : Int) < a
    refine ⟨by with_reducible rfl, ?_⟩ -- true = true
    refine ⟨by with_reducible rfl, ?_⟩ -- true = true
    exact by exact hk 0 2 (by unfold smoothV; rw [if_neg (by unfold smOk; omega)]) (by unfold smoothE; rw [if_neg (by unfold smOk; omega)]) (by omega) (by omega) -- k (AV.tup [AV.int IntKind.i64 (0 : Int), AV.int IntKind.i64 (2 : Int)]) [] []
  · -- no
    simp at c1 -- (0 : Int) ≤ a ∧ a ≤ (65536 : Int)
    refine ⟨by exact ⟨by assumption, by assumption⟩, ?_⟩ -- (-9223372036854775808 : Int) ≤ b ∧ b ≤ (9223372036854775807 : Int)
    refine br_intro (fun c2 => ?_) (fun c2 => ?_) -- bif false then true else !decide ((0 : Int) ≤ b ∧ b ≤ (65536 : Int))
    · -- yes
      simp at c2 -- b < (0 : Int) ∨ (65536 : Int) < b
      refine ⟨by with_reducible rfl, ?_⟩ -- true = true
      exact by exact hk 0 2 (by unfold smoothV; rw [if_neg (by unfold smOk; omega)]) (by unfold smoothE; rw [if_neg (by unfold smOk; omega)]) (by omega) (by omega) -- k (AV.tup [AV.int IntKind.i64 (0 : Int), AV.int IntKind.i64 (2 : Int)]) [] []
    · -- no
      simp at c2 -- (0 : Int) ≤ b ∧ b ≤ (65536 : Int)
      refine ⟨by exact ⟨by assumption, by assumption⟩, ?_⟩ -- (-9223372036854775808 : Int) ≤ c ∧ c ≤ (9223372036854775807 : Int)
      refine br_intro (fun c3 => ?_) (fun c3 => ?_) -- bif false then true else !decide ((0 : Int) ≤ c ∧ c ≤ (65536 : Int))
      · -- yes
        simp at c3 -- c < (0 : Int) ∨ (65536 : Int) < c
        exact by exact hk 0 2 (by unfold smoothV; rw [if_neg (by unfold smOk; omega)]) (by unfold smoothE; rw [if_neg (by unfold smOk; omega)]) (by omega) (by omega) -- k (AV.tup [AV.int IntKind.i64 (0 : Int), AV.int IntKind.i64 (2 : Int)]) [] []
      · -- no
        simp at c3 -- (0 : Int) ≤ c ∧ c ≤ (65536 : Int)
        refine ⟨by exact ⟨by assumption, by assumption⟩, ?_⟩ -- (-9223372036854775808 : Int) ≤ a ∧ a ≤ (9223372036854775807 : Int)
        refine ⟨by exact ⟨by assumption, by assumption⟩, ?_⟩ -- (-9223372036854775808 : Int) ≤ b ∧ b ≤ (9223372036854775807 : Int)
        refine ⟨by exact ⟨by assumption, by assumption⟩, ?_⟩ -- (-9223372036854775808 : Int) ≤ c ∧ c ≤ (9223372036854775807 : Int)
        intro r_1
        intro h4 -- r_1 = mixI a b c
        intro ⟨a5, b5⟩ -- (-70368744177664 : Int) ≤ r_1 ∧ r_1 ≤ (70368744177664 : Int)
        -- k (AV.tup [AV.int IntKind.i64 r_1, AV.int IntKind.i64 (0 : Int)]) [] []
        exact hk _ 0 (by unfold smoothV; rw [if_pos (by unfold smOk; omega)]; exact h4) (by unfold smoothE; rw [if_pos (by unfold smOk; omega)]) (by have := smoothV_bd a b c; unfold smoothV at this; rw [if_pos (by unfold smOk; omega), ← h4] at this; exact this) (by omega)

theorem smooth_ok : Holds Try.prog 13 smoothS := by
  refine fn_sound (env := mkEnv T3) (tab_ok T3_ok) Try.func13 Try.call13 fun args k h => ?_
  match args, h with
  | [.int .i64 a, .int .i64 b, .int .i64 c], h => exact ⟨by kernel_rfl, fun _ _ => none, fun _ _ => none, .cast (by kernel_rfl) (smooth_vc a h.1.1 h.1.2 b h.2.1.1 h.2.1.2 c h.2.2.1.1 h.2.2.1.2 k h.2.2.2)⟩
set_option maxHeartbeats 2000000 in
theorem rsmooth_vc (a : Int) (a0 : (-9223372036854775808 : Int) ≤ a) (a1 : a ≤ (9223372036854775807 : Int)) (b : Int) (b0 : (-9223372036854775808 : Int) ≤ b) (b1 : b ≤ (9223372036854775807 : Int)) (c : Int) (c0 : (-9223372036854775808 : Int) ≤ c) (c1 : c ≤ (9223372036854775807 : Int)) (k : AV → List (Option Blk) → List Blk → Prop) (hk : ∀ (v e : Int), v = smoothV a b c → e = smoothE a b c → (0 : Int) ≤ v ∧ v ≤ (65536 : Int) → e = (0 : Int) ∨ e = (2 : Int) → k (AV.tup [AV.int IntKind.i64 v, AV.int IntKind.i64 e]) [] []) :
  (
   ((-9223372036854775808 : Int) ≤ a) ∧
   (a ≤ (9223372036854775807 : Int))) ∧
  br (!decide ((0 : Int) ≤ a ∧ a ≤ (65536 : Int)))
   ((true = true) ∧
    (true = true) ∧
    (k (AV.tup [AV.int IntKind.i64 (0 : Int), AV.int IntKind.i64 (2 : Int)]) [] []))
   ((
     ((-9223372036854775808 : Int) ≤ b) ∧
     (b ≤ (9223372036854775807 : Int))) ∧
    br (bif false then true else !decide ((0 : Int) ≤ b ∧ b ≤ (65536 : Int)))
     ((true = true) ∧
      (k (AV.tup [AV.int IntKind.i64 (0 : Int), AV.int IntKind.i64 (2 : Int)]) [] []))
     ((
       ((-9223372036854775808 : Int) ≤ c) ∧
       (c ≤ (9223372036854775807 : Int))) ∧
      br (bif false then true else !decide ((0 : Int) ≤ c ∧ c ≤ (65536 : Int)))
       ((k (AV.tup [AV.int IntKind.i64 (0 : Int), AV.int IntKind.i64 (2 : Int)]) [] []))
       ((
         ((-9223372036854775808 : Int) ≤ a) ∧
         (a ≤ (9223372036854775807 : Int))) ∧
        (
         ((-9223372036854775808 : Int) ≤ b) ∧
         (b ≤ (9223372036854775807 : Int))) ∧
        (
         ((-9223372036854775808 : Int) ≤ c) ∧
         (c ≤ (9223372036854775807 : Int))) ∧
        (
         ((0 : Int) ≤ a) ∧
         (a ≤ (65536 : Int))) ∧
        (
         ((0 : Int) ≤ b) ∧
         (b ≤ (65536 : Int))) ∧
        (
         ((0 : Int) ≤ c) ∧
         (c ≤ (65536 : Int))) ∧
        ∀ (r_1 : Int),
        (r_1 = mixI a b c) →
        (True) →
        (k (AV.tup [AV.int IntKind.i64 r_1, AV.int IntKind.i64 (0 : Int)]) [] [])))) := by
  refine ⟨by exact ⟨by assumption, by assumption⟩, ?_⟩ -- (-9223372036854775808 : Int) ≤ a ∧ a ≤ (9223372036854775807 : Int)
  refine br_intro (fun c1 => ?_) (fun c1 => ?_) -- !decide ((0 : Int) ≤ a ∧ a ≤ (65536 : Int))
  · -- yes
    simp at c1 -- a < (0 : Int) ∨ (65536 : Int) < a
    refine ⟨by with_reducible rfl, ?_⟩ -- true = true
    refine ⟨by with_reducible rfl, ?_⟩ -- true = true
    exact by exact hk 0 2 (by unfold smoothV; rw [if_neg (by unfold smOk; omega)]) (by unfold smoothE; rw [if_neg (by unfold smOk; omega)]) (by omega) (by omega) -- k (AV.tup [AV.int IntKind.i64 (0 : Int), AV.int IntKind.i64 (2 : Int)]) [] []
  · -- no
    simp at c1 -- (0 : Int) ≤ a ∧ a ≤ (65536 : Int)
    refine ⟨by exact ⟨by assumption, by assumption⟩, ?_⟩ -- (-9223372036854775808 : Int) ≤ b ∧ b ≤ (9223372036854775807 : Int)
    refine br_intro (fun c2 => ?_) (fun c2 => ?_) -- bif false then true else !decide ((0 : Int) ≤ b ∧ b ≤ (65536 : Int))
    · -- yes
      simp at c2 -- b < (0 : Int) ∨ (65536 : Int) < b
      refine ⟨by with_reducible rfl, ?_⟩ -- true = true
      exact by exact hk 0 2 (by unfold smoothV; rw [if_neg (by unfold smOk; omega)]) (by unfold smoothE; rw [if_neg (by unfold smOk; omega)]) (by omega) (by omega) -- k (AV.tup [AV.int IntKind.i64 (0 : Int), AV.int IntKind.i64 (2 : Int)]) [] []
    · -- no
      simp at c2 -- (0 : Int) ≤ b ∧ b ≤ (65536 : Int)
      refine ⟨by exact ⟨by assumption, by assumption⟩, ?_⟩ -- (-9223372036854775808 : Int) ≤ c ∧ c ≤ (9223372036854775807 : Int)
      refine br_intro (fun c3 => ?_) (fun c3 => ?_) -- bif false then true else !decide ((0 : Int) ≤ c ∧ c ≤ (65536 : Int))
      · -- yes
        simp at c3 -- c < (0 : Int) ∨ (65536 : Int) < c
        exact by exact hk 0 2 (by unfold smoothV; rw [if_neg (by unfold smOk; omega)]) (by unfold smoothE; rw [if_neg (by unfold smOk; omega)]) (by omega) (by omega) -- k (AV.tup [AV.int IntKind.i64 (0 : Int), AV.int IntKind.i64 (2 : Int)]) [] []
      · -- no
        simp at c3 -- (0 : Int) ≤ c ∧ c ≤ (65536 : Int)
        refine ⟨by exact ⟨by assumption, by assumption⟩, ?_⟩ -- (-9223372036854775808 : Int) ≤ a ∧ a ≤ (9223372036854775807 : Int)
        refine ⟨by exact ⟨by assumption, by assumption⟩, ?_⟩ -- (-9223372036854775808 : Int) ≤ b ∧ b ≤ (9223372036854775807 : Int)
        refine ⟨by exact ⟨by assumption, by assumption⟩, ?_⟩ -- (-9223372036854775808 : Int) ≤ c ∧ c ≤ (9223372036854775807 : Int)
        refine ⟨by omega, ?_⟩ -- (0 : Int) ≤ a ∧ a ≤ (65536 : Int)
        refine ⟨by omega, ?_⟩ -- (0 : Int) ≤ b ∧ b ≤ (65536 : Int)
        refine ⟨by omega, ?_⟩ -- (0 : Int) ≤ c ∧ c ≤ (65536 : Int)
        intro r_1
        intro h4 -- r_1 = mixI a b c
        intro h5 -- True
        -- k (AV.tup [AV.int IntKind.i64 r_1, AV.int IntKind.i64 (0 : Int)]) [] []
        exact hk _ 0 (by unfold smoothV; rw [if_pos (by unfold smOk; omega)]; exact h4) (by unfold smoothE; rw [if_pos (by unfold smOk; omega)]) (by have := smoothV_bd a b c; unfold smoothV at this; rw [if_pos (by unfold smOk; omega), ← h4] at this; exact this) (by omega)

theorem rsmooth_ok : Holds Try.prog 14 smoothS := by
  refine fn_sound (env := mkEnv T3) (tab_ok T3_ok) Try.func14 Try.call14 fun args k h => ?_
  match args, h with
  | [.int .i64 a, .int .i64 b, .int .i64 c], h => exact ⟨by kernel_rfl, fun _ _ => none, fun _ _ => none, .cast (by kernel_rfl) (rsmooth_vc a h.1.1 h.1.2 b h.2.1.1 h.2.1.2 c h.2.2.1.1 h.2.2.1.2 k h.2.2.2)⟩
set_option maxHeartbeats 2000000 in
theorem best_vc (xs : List Int) (k : AV → List (Option Blk) → List Blk → Prop) (hk : k (AV.int IntKind.i64 (tp xs xs.length)) [] []) :
  ∀ (n1 : Int),
  (n1 = (↑xs.length : Int)) →
  ((-9223372036854775808 : Int) ≤ n1 ∧ n1 ≤ (9223372036854775807 : Int)) →
  (
   ∃ (v : Int × Int),
   (xs = xs) ∧
   ((-1 : Int) = v.fst) ∧
   (xs = xs) ∧
   (n1 = (↑xs.length : Int)) ∧
   ((0 : Int) = v.snd) ∧
   (
    ((0 : Int) ≤ v.snd) ∧
    (v.snd ≤ (↑xs.length : Int))) ∧
   (v.fst = tp xs v.snd.toNat)) ∧
  ∀ (v_4 : Int × Int),
  (((0 : Int) ≤ v_4.snd ∧ v_4.snd ≤ (↑xs.length : Int)) ∧ v_4.fst = tp xs v_4.snd.toNat) →
  br (decide (v_4.snd < (↑xs.length : Int)))
   (((0 : Int) ≤ v_4.snd) ∧
    (v_4.snd < (↑xs.length : Int)) ∧
    ∀ (n6 : Int),
    (n6 = xs.getD v_4.snd.toNat (0 : Int)) →
    ((-9223372036854775808 : Int) ≤ n6 ∧ n6 ≤ (9223372036854775807 : Int)) →
    (
     (decide (v_4.fst < (0 : Int)) = false) →
     ((0 : Int) ≤ v_4.fst) ∧
     (v_4.fst < (↑xs.length : Int))) ∧
    ∀ (n10 : Int),
    (n10 = xs.getD v_4.fst.toNat (0 : Int)) →
    br (decide (v_4.fst < (0 : Int)))
     ((true = true) ∧
      ∀ (n12 : Int),
      (n12 = IntKind.i64.wrap (v_4.snd + (1 : Int))) →
      ((-9223372036854775808 : Int) ≤ n12 ∧ n12 ≤ (9223372036854775807 : Int)) →
      ∃ (v' : Int × Int),
      (xs = xs) ∧
      (v_4.snd = v'.fst) ∧
      (xs = xs) ∧
      ((↑xs.length : Int) = (↑xs.length : Int)) ∧
      (n12 = v'.snd) ∧
      (
       (
        ((0 : Int) ≤ v'.snd) ∧
        (v'.snd ≤ (↑xs.length : Int))) ∧
       (v'.fst = tp xs v'.snd.toNat)) ∧
      (xs.length - v'.snd.toNat < xs.length - v_4.snd.toNat))
     (br (bif false then true else decide (n6 > n10))
       (∀ (n15 : Int),
        (n15 = IntKind.i64.wrap (v_4.snd + (1 : Int))) →
        ((-9223372036854775808 : Int) ≤ n15 ∧ n15 ≤ (9223372036854775807 : Int)) →
        ∃ (v' : Int × Int),
        (xs = xs) ∧
        (v_4.snd = v'.fst) ∧
        (xs = xs) ∧
        ((↑xs.length : Int) = (↑xs.length : Int)) ∧
        (n15 = v'.snd) ∧
        (
         (
          ((0 : Int) ≤ v'.snd) ∧
          (v'.snd ≤ (↑xs.length : Int))) ∧
         (v'.fst = tp xs v'.snd.toNat)) ∧
        (xs.length - v'.snd.toNat < xs.length - v_4.snd.toNat))
       (∀ (n18 : Int),
        (n18 = IntKind.i64.wrap (v_4.snd + (1 : Int))) →
        ((-9223372036854775808 : Int) ≤ n18 ∧ n18 ≤ (9223372036854775807 : Int)) →
        ∃ (v' : Int × Int),
        (xs = xs) ∧
        (v_4.fst = v'.fst) ∧
        (xs = xs) ∧
        ((↑xs.length : Int) = (↑xs.length : Int)) ∧
        (n18 = v'.snd) ∧
        (
         (
          ((0 : Int) ≤ v'.snd) ∧
          (v'.snd ≤ (↑xs.length : Int))) ∧
         (v'.fst = tp xs v'.snd.toNat)) ∧
        (xs.length - v'.snd.toNat < xs.length - v_4.snd.toNat))))
   ((k (AV.int IntKind.i64 v_4.fst) [] [])) := by
  intro n1
  intro q1 -- n1 = (↑xs.length : Int)
  intro ⟨l1, u1⟩ -- (-9223372036854775808 : Int) ≤ n1 ∧ n1 ≤ (9223372036854775807 : Int)
  refine ⟨?_, ?_⟩
  · -- left
    refine ⟨((-1 : Int), (0 : Int)), ?_⟩
    refine ⟨by first | with_reducible rfl | rfl, ?_⟩ -- xs = xs
    refine ⟨by first | with_reducible rfl | rfl, ?_⟩ -- (-1 : Int) = (-1 : Int)
    refine ⟨by first | with_reducible rfl | rfl, ?_⟩ -- xs = xs
    refine ⟨by show n1 = (↑xs.length : Int); assumption, ?_⟩ -- n1 = (↑xs.length : Int)
    refine ⟨by first | with_reducible rfl | rfl, ?_⟩ -- (0 : Int) = (0 : Int)
    refine ⟨by omega, ?_⟩ -- (0 : Int) ≤ (0 : Int) ∧ (0 : Int) ≤ (↑xs.length : Int)
    exact by rfl -- (-1 : Int) = tp xs (Int.toNat (0 : Int))
  intro v_4
  intro h1 -- ((0 : Int) ≤ v_4.snd ∧ v_4.snd ≤ (↑xs.length : Int)) ∧ v_4.fst = tp xs v_4.snd.toNat
  have tb : -1 ≤ v_4.fst ∧ v_4.fst < v_4.snd ∧ (0 < v_4.snd → 0 ≤ v_4.fst) := by (have := tp_bd xs v_4.snd.toNat; rw [← h1.2] at this; omega)
  have ts : ((v_4.fst < 0 ∨ xs.getD v_4.snd.toNat 0 > xs.getD v_4.fst.toNat 0) → v_4.snd = tp xs (v_4.snd + 1).toNat) ∧ (¬ (v_4.fst < 0 ∨ xs.getD v_4.snd.toNat 0 > xs.getD v_4.fst.toNat 0) → v_4.fst = tp xs (v_4.snd + 1).toNat) := by exact tp_step xs v_4.snd h1.1.1 v_4.fst h1.2
  refine brd (fun c2 => ?_) (fun c2 => ?_) -- decide (v_4.snd < (↑xs.length : Int))
  · -- yes
    refine ⟨by omega, ?_⟩ -- (0 : Int) ≤ v_4.snd
    refine ⟨by assumption, ?_⟩ -- v_4.snd < (↑xs.length : Int)
    intro n6
    intro q6 -- n6 = xs.getD v_4.snd.toNat (0 : Int)
    intro ⟨l6, u6⟩ -- (-9223372036854775808 : Int) ≤ n6 ∧ n6 ≤ (9223372036854775807 : Int)
    refine ⟨?_, ?_⟩
    · -- left
      intro h3 -- decide (v_4.fst < (0 : Int)) = false
      simp at h3 -- (0 : Int) ≤ v_4.fst
      refine ⟨by assumption, ?_⟩ -- (0 : Int) ≤ v_4.fst
      exact by omega -- v_4.fst < (↑xs.length : Int)
    intro n10
    intro q10 -- n10 = xs.getD v_4.fst.toNat (0 : Int)
    refine brd (fun c4 => ?_) (fun c4 => ?_) -- decide (v_4.fst < (0 : Int))
    · -- yes
      refine ⟨by with_reducible rfl, ?_⟩ -- true = true
      intro n12
      intro q12 -- n12 = IntKind.i64.wrap (v_4.snd + (1 : Int))
      rw [IntKind.wrap_i64] at q12
      intro ⟨l12, u12⟩ -- (-9223372036854775808 : Int) ≤ n12 ∧ n12 ≤ (9223372036854775807 : Int)
      refine ⟨(v_4.snd, n12), ?_⟩
      refine ⟨by first | with_reducible rfl | rfl, ?_⟩ -- xs = xs
      refine ⟨by first | with_reducible rfl | rfl, ?_⟩ -- v_4.snd = v_4.snd
      refine ⟨by first | with_reducible rfl | rfl, ?_⟩ -- xs = xs
      refine ⟨by first | with_reducible rfl | rfl, ?_⟩ -- (↑xs.length : Int) = (↑xs.length : Int)
      refine ⟨by first | with_reducible rfl | rfl, ?_⟩ -- n12 = n12
      refine ⟨?_, ?_⟩
      · -- left
        refine ⟨by omega, ?_⟩ -- (0 : Int) ≤ n12 ∧ n12 ≤ (↑xs.length : Int)
        -- v_4.snd = tp xs n12.toNat
        rw [show n12 = v_4.snd + 1 by omega]; exact ts.1 (by omega)
      exact by show xs.length - n12.toNat < xs.length - v_4.snd.toNat; omega -- xs.length - n12.toNat < xs.length - v_4.snd.toNat
    · -- no
      refine br_intro (fun c5 => ?_) (fun c5 => ?_) -- bif false then true else decide (n6 > n10)
      · -- yes
        simp at c5 -- n10 < n6
        intro n15
        intro q15 -- n15 = IntKind.i64.wrap (v_4.snd + (1 : Int))
        rw [IntKind.wrap_i64] at q15
        intro ⟨l15, u15⟩ -- (-9223372036854775808 : Int) ≤ n15 ∧ n15 ≤ (9223372036854775807 : Int)
        refine ⟨(v_4.snd, n15), ?_⟩
        refine ⟨by first | with_reducible rfl | rfl, ?_⟩ -- xs = xs
        refine ⟨by first | with_reducible rfl | rfl, ?_⟩ -- v_4.snd = v_4.snd
        refine ⟨by first | with_reducible rfl | rfl, ?_⟩ -- xs = xs
        refine ⟨by first | with_reducible rfl | rfl, ?_⟩ -- (↑xs.length : Int) = (↑xs.length : Int)
        refine ⟨by first | with_reducible rfl | rfl, ?_⟩ -- n15 = n15
        refine ⟨?_, ?_⟩
        · -- left
          refine ⟨by omega, ?_⟩ -- (0 : Int) ≤ n15 ∧ n15 ≤ (↑xs.length : Int)
          -- v_4.snd = tp xs n15.toNat
          rw [show n15 = v_4.snd + 1 by omega]; exact ts.1 (by omega)
        exact by show xs.length - n15.toNat < xs.length - v_4.snd.toNat; omega -- xs.length - n15.toNat < xs.length - v_4.snd.toNat
      · -- no
        simp at c5 -- n6 ≤ n10
        intro n18
        intro q18 -- n18 = IntKind.i64.wrap (v_4.snd + (1 : Int))
        rw [IntKind.wrap_i64] at q18
        intro ⟨l18, u18⟩ -- (-9223372036854775808 : Int) ≤ n18 ∧ n18 ≤ (9223372036854775807 : Int)
        refine ⟨(v_4.fst, n18), ?_⟩
        refine ⟨by first | with_reducible rfl | rfl, ?_⟩ -- xs = xs
        refine ⟨by first | with_reducible rfl | rfl, ?_⟩ -- v_4.fst = v_4.fst
        refine ⟨by first | with_reducible rfl | rfl, ?_⟩ -- xs = xs
        refine ⟨by first | with_reducible rfl | rfl, ?_⟩ -- (↑xs.length : Int) = (↑xs.length : Int)
        refine ⟨by first | with_reducible rfl | rfl, ?_⟩ -- n18 = n18
        refine ⟨?_, ?_⟩
        · -- left
          refine ⟨by omega, ?_⟩ -- (0 : Int) ≤ n18 ∧ n18 ≤ (↑xs.length : Int)
          -- v_4.fst = tp xs n18.toNat
          rw [show n18 = v_4.snd + 1 by omega]; exact ts.2 (by omega)
        exact by show xs.length - n18.toNat < xs.length - v_4.snd.toNat; omega -- xs.length - n18.toNat < xs.length - v_4.snd.toNat
  · -- no
    -- k (AV.int IntKind.i64 v_4.fst) [] []
    have e : v_4.fst = tp xs xs.length := by rw [h1.2]; congr 1; omega
    rw [e]; exact hk

theorem best_ok : Holds Try.prog 19 bestS := by
  refine fn_sound (env := mkEnv T3) (tab_ok T3_ok) Try.func19 Try.call19 fun args k h => ?_
  match args, h with
  | [.sl 1 xs, .fn (.func 20) [] []], h => exact ⟨by kernel_rfl, bestLoops xs, fun _ _ => none, .cast (by kernel_rfl) (best_vc xs k h)⟩
set_option maxHeartbeats 2000000 in
theorem top_vc (xs : List Int) (k : AV → List (Option Blk) → List Blk → Prop) (hk : k (AV.int IntKind.i64 (tp xs xs.length)) [] []) :
  (
   ∃ (v : Int × Int),
   (xs = xs) ∧
   ((-1 : Int) = v.fst) ∧
   ((0 : Int) = v.snd) ∧
   (
    ((0 : Int) ≤ v.snd) ∧
    (v.snd ≤ (↑xs.length : Int))) ∧
   (v.fst = tp xs v.snd.toNat)) ∧
  ∀ (v_1 : Int × Int),
  (((0 : Int) ≤ v_1.snd ∧ v_1.snd ≤ (↑xs.length : Int)) ∧ v_1.fst = tp xs v_1.snd.toNat) →
  ∀ (n3 : Int),
  (n3 = (↑xs.length : Int)) →
  ((-9223372036854775808 : Int) ≤ n3 ∧ n3 ≤ (9223372036854775807 : Int)) →
  br (decide (v_1.snd < n3))
   ((
     (decide (v_1.fst < (0 : Int)) = false) →
     ((0 : Int) ≤ v_1.snd) ∧
     (v_1.snd < (↑xs.length : Int))) ∧
    ∀ (n7 : Int),
    (n7 = xs.getD v_1.snd.toNat (0 : Int)) →
    (
     (decide (v_1.fst < (0 : Int)) = false) →
     ((0 : Int) ≤ v_1.fst) ∧
     (v_1.fst < (↑xs.length : Int))) ∧
    ∀ (n10 : Int),
    (n10 = xs.getD v_1.fst.toNat (0 : Int)) →
    br (bif decide (v_1.fst < (0 : Int)) then true else decide (n7 > n10))
     (∀ (n12 : Int),
      (n12 = IntKind.i64.wrap (v_1.snd + (1 : Int))) →
      ((-9223372036854775808 : Int) ≤ n12 ∧ n12 ≤ (9223372036854775807 : Int)) →
      ∃ (v' : Int × Int),
      (xs = xs) ∧
      (v_1.snd = v'.fst) ∧
      (n12 = v'.snd) ∧
      (
       (
        ((0 : Int) ≤ v'.snd) ∧
        (v'.snd ≤ (↑xs.length : Int))) ∧
       (v'.fst = tp xs v'.snd.toNat)) ∧
      (xs.length - v'.snd.toNat < xs.length - v_1.snd.toNat))
     (∀ (n15 : Int),
      (n15 = IntKind.i64.wrap (v_1.snd + (1 : Int))) →
      ((-9223372036854775808 : Int) ≤ n15 ∧ n15 ≤ (9223372036854775807 : Int)) →
      ∃ (v' : Int × Int),
      (xs = xs) ∧
      (v_1.fst = v'.fst) ∧
      (n15 = v'.snd) ∧
      (
       (
        ((0 : Int) ≤ v'.snd) ∧
        (v'.snd ≤ (↑xs.length : Int))) ∧
       (v'.fst = tp xs v'.snd.toNat)) ∧
      (xs.length - v'.snd.toNat < xs.length - v_1.snd.toNat)))
   ((k (AV.int IntKind.i64 v_1.fst) [] [])) := by
  refine ⟨?_, ?_⟩
  · -- left
    refine ⟨((-1 : Int), (0 : Int)), ?_⟩
    refine ⟨by first | with_reducible rfl | rfl, ?_⟩ -- xs = xs
    refine ⟨by first | with_reducible rfl | rfl, ?_⟩ -- (-1 : Int) = (-1 : Int)
    refine ⟨by first | with_reducible rfl | rfl, ?_⟩ -- (0 : Int) = (0 : Int)
    refine ⟨by omega, ?_⟩ -- (0 : Int) ≤ (0 : Int) ∧ (0 : Int) ≤ (↑xs.length : Int)
    exact by rfl -- (-1 : Int) = tp xs (Int.toNat (0 : Int))
  intro v_1
  intro h1 -- ((0 : Int) ≤ v_1.snd ∧ v_1.snd ≤ (↑xs.length : Int)) ∧ v_1.fst = tp xs v_1.snd.toNat
  have tb : -1 ≤ v_1.fst ∧ v_1.fst < v_1.snd ∧ (0 < v_1.snd → 0 ≤ v_1.fst) := by (have := tp_bd xs v_1.snd.toNat; rw [← h1.2] at this; omega)
  have ts : ((v_1.fst < 0 ∨ xs.getD v_1.snd.toNat 0 > xs.getD v_1.fst.toNat 0) → v_1.snd = tp xs (v_1.snd + 1).toNat) ∧ (¬ (v_1.fst < 0 ∨ xs.getD v_1.snd.toNat 0 > xs.getD v_1.fst.toNat 0) → v_1.fst = tp xs (v_1.snd + 1).toNat) := by exact tp_step xs v_1.snd h1.1.1 v_1.fst h1.2
  intro n3
  intro q3 -- n3 = (↑xs.length : Int)
  intro ⟨l3, u3⟩ -- (-9223372036854775808 : Int) ≤ n3 ∧ n3 ≤ (9223372036854775807 : Int)
  refine brd (fun c2 => ?_) (fun c2 => ?_) -- decide (v_1.snd < n3)
  · -- yes
    refine ⟨?_, ?_⟩
    · -- left
      intro h3 -- decide (v_1.fst < (0 : Int)) = false
      simp at h3 -- (0 : Int) ≤ v_1.fst
      refine ⟨by omega, ?_⟩ -- (0 : Int) ≤ v_1.snd
      exact by omega -- v_1.snd < (↑xs.length : Int)
    intro n7
    intro q7 -- n7 = xs.getD v_1.snd.toNat (0 : Int)
    refine ⟨?_, ?_⟩
    · -- left
      intro q7 -- decide (v_1.fst < (0 : Int)) = false
      simp at q7 -- (0 : Int) ≤ v_1.fst
      refine ⟨by assumption, ?_⟩ -- (0 : Int) ≤ v_1.fst
      exact by omega -- v_1.fst < (↑xs.length : Int)
    intro n10
    intro q10 -- n10 = xs.getD v_1.fst.toNat (0 : Int)
    refine br_intro (fun c4 => ?_) (fun c4 => ?_) -- bif decide (v_1.fst < (0 : Int)) then true else decide (n7 > n10)
    · -- yes
      simp at c4 -- v_1.fst < (0 : Int) ∨ n10 < n7
      intro n12
      intro q12 -- n12 = IntKind.i64.wrap (v_1.snd + (1 : Int))
      rw [IntKind.wrap_i64] at q12
      intro ⟨l12, u12⟩ -- (-9223372036854775808 : Int) ≤ n12 ∧ n12 ≤ (9223372036854775807 : Int)
      refine ⟨(v_1.snd, n12), ?_⟩
      refine ⟨by first | with_reducible rfl | rfl, ?_⟩ -- xs = xs
      refine ⟨by first | with_reducible rfl | rfl, ?_⟩ -- v_1.snd = v_1.snd
      refine ⟨by first | with_reducible rfl | rfl, ?_⟩ -- n12 = n12
      refine ⟨?_, ?_⟩
      · -- left
        refine ⟨by omega, ?_⟩ -- (0 : Int) ≤ n12 ∧ n12 ≤ (↑xs.length : Int)
        -- v_1.snd = tp xs n12.toNat
        rw [show n12 = v_1.snd + 1 by omega]; exact ts.1 (by omega)
      exact by show xs.length - n12.toNat < xs.length - v_1.snd.toNat; omega -- xs.length - n12.toNat < xs.length - v_1.snd.toNat
    · -- no
      simp at c4 -- (0 : Int) ≤ v_1.fst ∧ n7 ≤ n10
      intro n15
      intro q15 -- n15 = IntKind.i64.wrap (v_1.snd + (1 : Int))
      rw [IntKind.wrap_i64] at q15
      intro ⟨l15, u15⟩ -- (-9223372036854775808 : Int) ≤ n15 ∧ n15 ≤ (9223372036854775807 : Int)
      refine ⟨(v_1.fst, n15), ?_⟩
      refine ⟨by first | with_reducible rfl | rfl, ?_⟩ -- xs = xs
      refine ⟨by first | with_reducible rfl | rfl, ?_⟩ -- v_1.fst = v_1.fst
      refine ⟨by first | with_reducible rfl | rfl, ?_⟩ -- n15 = n15
      refine ⟨?_, ?_⟩
      · -- left
        refine ⟨by omega, ?_⟩ -- (0 : Int) ≤ n15 ∧ n15 ≤ (↑xs.length : Int)
        -- v_1.fst = tp xs n15.toNat
        rw [show n15 = v_1.snd + 1 by omega]; exact ts.2 (by omega)
      exact by show xs.length - n15.toNat < xs.length - v_1.snd.toNat; omega -- xs.length - n15.toNat < xs.length - v_1.snd.toNat
  · -- no
    -- k (AV.int IntKind.i64 v_1.fst) [] []
    have e : v_1.fst = tp xs xs.length := by rw [h1.2]; congr 1; omega
    rw [e]; exact hk

theorem top_ok : Holds Try.prog 22 topS := by
  refine fn_sound (env := mkEnv T3) (tab_ok T3_ok) Try.func22 Try.call22 fun args k h => ?_
  match args, h with
  | [.sl 1 xs], h => exact ⟨by kernel_rfl, topLoops xs, fun _ _ => none, .cast (by kernel_rfl) (top_vc xs k h)⟩
theorem T4_ok : TabOk Try.prog T4 := ⟨best_ok, top_ok, T3_ok⟩
set_option maxHeartbeats 2000000 in
theorem high_vc (xs : List Int) (k : AV → List (Option Blk) → List Blk → Prop) (hk : k (AV.tup [AV.int IntKind.i64 (hi xs).fst, AV.int IntKind.i64 (hi xs).snd.fst, AV.int IntKind.i64 (hi xs).snd.snd]) [] []) :
  ∀ (n1 : Int),
  (n1 = (↑xs.length : Int)) →
  ((-9223372036854775808 : Int) ≤ n1 ∧ n1 ≤ (9223372036854775807 : Int)) →
  br (decide (n1 > (1024 : Int)))
   ((k (AV.tup [AV.int IntKind.i64 (0 : Int), AV.int IntKind.i64 (0 : Int), AV.int IntKind.i64 (4 : Int)]) [] []))
   (∀ (n4 : Int),
    (n4 = (↑xs.length : Int)) →
    ((-9223372036854775808 : Int) ≤ n4 ∧ n4 ≤ (9223372036854775807 : Int)) →
    (
     ∃ (v : Int),
     (xs = xs) ∧
     (xs = xs) ∧
     (n4 = (↑xs.length : Int)) ∧
     ((0 : Int) = v) ∧
     (
      ((0 : Int) ≤ v) ∧
      (v ≤ (↑xs.length : Int))) ∧
     ((List.take v.toNat xs).all fx = true)) ∧
    ∀ (v_7 : Int),
    (((0 : Int) ≤ v_7 ∧ v_7 ≤ (↑xs.length : Int)) ∧ (List.take v_7.toNat xs).all fx = true) →
    br (decide (v_7 < (↑xs.length : Int)))
     (((0 : Int) ≤ v_7) ∧
      (v_7 < (↑xs.length : Int)) ∧
      ∀ (n9 : Int),
      (n9 = xs.getD v_7.toNat (0 : Int)) →
      ((-9223372036854775808 : Int) ≤ n9 ∧ n9 ≤ (9223372036854775807 : Int)) →
      (
       ((-9223372036854775808 : Int) ≤ n9) ∧
       (n9 ≤ (9223372036854775807 : Int))) ∧
      br (!decide ((0 : Int) ≤ n9 ∧ n9 ≤ (65536 : Int)))
       ((k (AV.tup [AV.int IntKind.i64 (0 : Int), AV.int IntKind.i64 (0 : Int), AV.int IntKind.i64 (2 : Int)]) [] []))
       (∀ (n12 : Int),
        (n12 = IntKind.i64.wrap (v_7 + (1 : Int))) →
        ((-9223372036854775808 : Int) ≤ n12 ∧ n12 ≤ (9223372036854775807 : Int)) →
        ∃ (v' : Int),
        (xs = xs) ∧
        (xs = xs) ∧
        ((↑xs.length : Int) = (↑xs.length : Int)) ∧
        (n12 = v') ∧
        (
         (
          ((0 : Int) ≤ v') ∧
          (v' ≤ (↑xs.length : Int))) ∧
         ((List.take v'.toNat xs).all fx = true)) ∧
        (xs.length - v'.toNat < xs.length - v_7.toNat)))
     (br (decide (tp xs xs.length < (0 : Int)))
       ((k (AV.tup [AV.int IntKind.i64 (-1 : Int), AV.int IntKind.i64 (0 : Int), AV.int IntKind.i64 (0 : Int)]) [] []))
       (((0 : Int) ≤ tp xs xs.length) ∧
        (tp xs xs.length < (↑xs.length : Int)) ∧
        ∀ (n15 : Int),
        (n15 = xs.getD (tp xs xs.length).toNat (0 : Int)) →
        ((-9223372036854775808 : Int) ≤ n15 ∧ n15 ≤ (9223372036854775807 : Int)) →
        (k (AV.tup [AV.int IntKind.i64 (tp xs xs.length), AV.int IntKind.i64 n15, AV.int IntKind.i64 (0 : Int)]) [] [])))) := by
  intro n1
  intro q1 -- n1 = (↑xs.length : Int)
  intro ⟨l1, u1⟩ -- (-9223372036854775808 : Int) ≤ n1 ∧ n1 ≤ (9223372036854775807 : Int)
  refine brd (fun c1 => ?_) (fun c1 => ?_) -- decide (n1 > (1024 : Int))
  · -- yes
    -- k (AV.tup [AV.int IntKind.i64 (0 : Int), AV.int IntKind.i64 (0 : Int), AV.int IntKind.i64 (4 : Int)]) [] []
    rw [hi_many (by omega)] at hk; exact hk
  · -- no
    intro n4
    intro q4 -- n4 = (↑xs.length : Int)
    intro ⟨l4, u4⟩ -- (-9223372036854775808 : Int) ≤ n4 ∧ n4 ≤ (9223372036854775807 : Int)
    refine ⟨?_, ?_⟩
    · -- left
      refine ⟨(0 : Int), ?_⟩
      refine ⟨by first | with_reducible rfl | rfl, ?_⟩ -- xs = xs
      refine ⟨by first | with_reducible rfl | rfl, ?_⟩ -- xs = xs
      refine ⟨by show n4 = (↑xs.length : Int); assumption, ?_⟩ -- n4 = (↑xs.length : Int)
      refine ⟨by first | with_reducible rfl | rfl, ?_⟩ -- (0 : Int) = (0 : Int)
      refine ⟨by omega, ?_⟩ -- (0 : Int) ≤ (0 : Int) ∧ (0 : Int) ≤ (↑xs.length : Int)
      exact by rfl -- (List.take (Int.toNat (0 : Int)) xs).all fx = true
    intro v_7
    intro h2 -- ((0 : Int) ≤ v_7 ∧ v_7 ≤ (↑xs.length : Int)) ∧ (List.take v_7.toNat xs).all fx = true
    refine brd (fun c3 => ?_) (fun c3 => ?_) -- decide (v_7 < (↑xs.length : Int))
    · -- yes
      refine ⟨by omega, ?_⟩ -- (0 : Int) ≤ v_7
      refine ⟨by assumption, ?_⟩ -- v_7 < (↑xs.length : Int)
      intro n9
      intro q9 -- n9 = xs.getD v_7.toNat (0 : Int)
      intro ⟨l9, u9⟩ -- (-9223372036854775808 : Int) ≤ n9 ∧ n9 ≤ (9223372036854775807 : Int)
      refine ⟨by exact ⟨by assumption, by assumption⟩, ?_⟩ -- (-9223372036854775808 : Int) ≤ n9 ∧ n9 ≤ (9223372036854775807 : Int)
      refine br_intro (fun c4 => ?_) (fun c4 => ?_) -- !decide ((0 : Int) ≤ n9 ∧ n9 ≤ (65536 : Int))
      · -- yes
        simp at c4 -- n9 < (0 : Int) ∨ (65536 : Int) < n9
        -- k (AV.tup [AV.int IntKind.i64 (0 : Int), AV.int IntKind.i64 (0 : Int), AV.int IntKind.i64 (2 : Int)]) [] []
        rw [hi_bad (i := v_7.toNat) (by omega) (by omega) (by rw [← q9]; omega)] at hk; exact hk
      · -- no
        simp at c4 -- (0 : Int) ≤ n9 ∧ n9 ≤ (65536 : Int)
        intro n12
        intro q12 -- n12 = IntKind.i64.wrap (v_7 + (1 : Int))
        rw [IntKind.wrap_i64] at q12
        intro ⟨l12, u12⟩ -- (-9223372036854775808 : Int) ≤ n12 ∧ n12 ≤ (9223372036854775807 : Int)
        refine ⟨n12, ?_⟩
        refine ⟨by first | with_reducible rfl | rfl, ?_⟩ -- xs = xs
        refine ⟨by first | with_reducible rfl | rfl, ?_⟩ -- xs = xs
        refine ⟨by first | with_reducible rfl | rfl, ?_⟩ -- (↑xs.length : Int) = (↑xs.length : Int)
        refine ⟨by first | with_reducible rfl | rfl, ?_⟩ -- n12 = n12
        refine ⟨?_, ?_⟩
        · -- left
          refine ⟨by omega, ?_⟩ -- (0 : Int) ≤ n12 ∧ n12 ≤ (↑xs.length : Int)
          -- (List.take n12.toNat xs).all fx = true
          exact all_next h2.1.1 c3 (by omega) h2.2 (by rw [← q9]; exact c4)
        exact by show xs.length - n12.toNat < xs.length - v_7.toNat; omega -- xs.length - n12.toNat < xs.length - v_7.toNat
    · -- no
      refine brd (fun c5 => ?_) (fun c5 => ?_) -- decide (tp xs xs.length < (0 : Int))
      · -- yes
        -- k (AV.tup [AV.int IntKind.i64 (-1 : Int), AV.int IntKind.i64 (0 : Int), AV.int IntKind.i64 (0 : Int)]) [] []
        rw [hi_none (by omega) h2.2 c3 c5] at hk; exact hk
      · -- no
        refine ⟨by omega, ?_⟩ -- (0 : Int) ≤ tp xs xs.length
        have h6 : tp xs xs.length < (↑xs.length : Int) := by
          exact (tp_bd xs xs.length).2.1
        refine ⟨h6, ?_⟩
        intro n15
        intro q15 -- n15 = xs.getD (tp xs xs.length).toNat (0 : Int)
        intro ⟨l15, u15⟩ -- (-9223372036854775808 : Int) ≤ n15 ∧ n15 ≤ (9223372036854775807 : Int)
        -- k (AV.tup [AV.int IntKind.i64 (tp xs xs.length), AV.int IntKind.i64 n15, AV.int IntKind.i64 (0 : Int)]) [] []
        rw [hi_some (by omega) h2.2 c3 c5, ← q15] at hk; exact hk

theorem high_ok : Holds Try.prog 11 highS := by
  refine fn_sound (env := mkEnv T4) (tab_ok T4_ok) Try.func11 Try.call11 fun args k h => ?_
  match args, h with
  | [.sl 1 xs], h => exact ⟨by kernel_rfl, highLoops xs, fun _ _ => none, .cast (by kernel_rfl) (high_vc xs k h)⟩
set_option maxHeartbeats 2000000 in
theorem rhigh_vc (xs : List Int) (k : AV → List (Option Blk) → List Blk → Prop) (hk : k (AV.tup [AV.int IntKind.i64 (hi xs).fst, AV.int IntKind.i64 (hi xs).snd.fst, AV.int IntKind.i64 (hi xs).snd.snd]) [] []) :
  ∀ (n1 : Int),
  (n1 = (↑xs.length : Int)) →
  ((-9223372036854775808 : Int) ≤ n1 ∧ n1 ≤ (9223372036854775807 : Int)) →
  br (decide (n1 > (1024 : Int)))
   ((k (AV.tup [AV.int IntKind.i64 (0 : Int), AV.int IntKind.i64 (0 : Int), AV.int IntKind.i64 (4 : Int)]) [] []))
   ((
     ∃ (v : Int),
     (xs = xs) ∧
     ((0 : Int) = v) ∧
     (
      ((0 : Int) ≤ v) ∧
      (v ≤ (↑xs.length : Int))) ∧
     ((List.take v.toNat xs).all fx = true)) ∧
    ∀ (v_4 : Int),
    (((0 : Int) ≤ v_4 ∧ v_4 ≤ (↑xs.length : Int)) ∧ (List.take v_4.toNat xs).all fx = true) →
    ∀ (n6 : Int),
    (n6 = (↑xs.length : Int)) →
    ((-9223372036854775808 : Int) ≤ n6 ∧ n6 ≤ (9223372036854775807 : Int)) →
    br (decide (v_4 < n6))
     (((0 : Int) ≤ v_4) ∧
      (v_4 < (↑xs.length : Int)) ∧
      ∀ (n9 : Int),
      (n9 = xs.getD v_4.toNat (0 : Int)) →
      ((-9223372036854775808 : Int) ≤ n9 ∧ n9 ≤ (9223372036854775807 : Int)) →
      (
       ((-9223372036854775808 : Int) ≤ n9) ∧
       (n9 ≤ (9223372036854775807 : Int))) ∧
      br (!decide ((0 : Int) ≤ n9 ∧ n9 ≤ (65536 : Int)))
       ((k (AV.tup [AV.int IntKind.i64 (0 : Int), AV.int IntKind.i64 (0 : Int), AV.int IntKind.i64 (2 : Int)]) [] []))
       (∀ (n12 : Int),
        (n12 = IntKind.i64.wrap (v_4 + (1 : Int))) →
        ((-9223372036854775808 : Int) ≤ n12 ∧ n12 ≤ (9223372036854775807 : Int)) →
        ∃ (v' : Int),
        (xs = xs) ∧
        (n12 = v') ∧
        (
         (
          ((0 : Int) ≤ v') ∧
          (v' ≤ (↑xs.length : Int))) ∧
         ((List.take v'.toNat xs).all fx = true)) ∧
        (xs.length - v'.toNat < xs.length - v_4.toNat)))
     (br (decide (tp xs xs.length < (0 : Int)))
       ((k (AV.tup [AV.int IntKind.i64 (-1 : Int), AV.int IntKind.i64 (0 : Int), AV.int IntKind.i64 (0 : Int)]) [] []))
       (((0 : Int) ≤ tp xs xs.length) ∧
        (tp xs xs.length < (↑xs.length : Int)) ∧
        ∀ (n15 : Int),
        (n15 = xs.getD (tp xs xs.length).toNat (0 : Int)) →
        ((-9223372036854775808 : Int) ≤ n15 ∧ n15 ≤ (9223372036854775807 : Int)) →
        (k (AV.tup [AV.int IntKind.i64 (tp xs xs.length), AV.int IntKind.i64 n15, AV.int IntKind.i64 (0 : Int)]) [] [])))) := by
  intro n1
  intro q1 -- n1 = (↑xs.length : Int)
  intro ⟨l1, u1⟩ -- (-9223372036854775808 : Int) ≤ n1 ∧ n1 ≤ (9223372036854775807 : Int)
  refine brd (fun c1 => ?_) (fun c1 => ?_) -- decide (n1 > (1024 : Int))
  · -- yes
    -- k (AV.tup [AV.int IntKind.i64 (0 : Int), AV.int IntKind.i64 (0 : Int), AV.int IntKind.i64 (4 : Int)]) [] []
    rw [hi_many (by omega)] at hk; exact hk
  · -- no
    refine ⟨?_, ?_⟩
    · -- left
      refine ⟨(0 : Int), ?_⟩
      refine ⟨by first | with_reducible rfl | rfl, ?_⟩ -- xs = xs
      refine ⟨by first | with_reducible rfl | rfl, ?_⟩ -- (0 : Int) = (0 : Int)
      refine ⟨by omega, ?_⟩ -- (0 : Int) ≤ (0 : Int) ∧ (0 : Int) ≤ (↑xs.length : Int)
      exact by rfl -- (List.take (Int.toNat (0 : Int)) xs).all fx = true
    intro v_4
    intro h2 -- ((0 : Int) ≤ v_4 ∧ v_4 ≤ (↑xs.length : Int)) ∧ (List.take v_4.toNat xs).all fx = true
    intro n6
    intro q6 -- n6 = (↑xs.length : Int)
    intro ⟨l6, u6⟩ -- (-9223372036854775808 : Int) ≤ n6 ∧ n6 ≤ (9223372036854775807 : Int)
    refine brd (fun c3 => ?_) (fun c3 => ?_) -- decide (v_4 < n6)
    · -- yes
      refine ⟨by omega, ?_⟩ -- (0 : Int) ≤ v_4
      refine ⟨by omega, ?_⟩ -- v_4 < (↑xs.length : Int)
      intro n9
      intro q9 -- n9 = xs.getD v_4.toNat (0 : Int)
      intro ⟨l9, u9⟩ -- (-9223372036854775808 : Int) ≤ n9 ∧ n9 ≤ (9223372036854775807 : Int)
      refine ⟨by exact ⟨by assumption, by assumption⟩, ?_⟩ -- (-9223372036854775808 : Int) ≤ n9 ∧ n9 ≤ (9223372036854775807 : Int)
      refine br_intro (fun c4 => ?_) (fun c4 => ?_) -- !decide ((0 : Int) ≤ n9 ∧ n9 ≤ (65536 : Int))
      · -- yes
        simp at c4 -- n9 < (0 : Int) ∨ (65536 : Int) < n9
        -- k (AV.tup [AV.int IntKind.i64 (0 : Int), AV.int IntKind.i64 (0 : Int), AV.int IntKind.i64 (2 : Int)]) [] []
        rw [hi_bad (i := v_4.toNat) (by omega) (by omega) (by rw [← q9]; omega)] at hk; exact hk
      · -- no
        simp at c4 -- (0 : Int) ≤ n9 ∧ n9 ≤ (65536 : Int)
        intro n12
        intro q12 -- n12 = IntKind.i64.wrap (v_4 + (1 : Int))
        rw [IntKind.wrap_i64] at q12
        intro ⟨l12, u12⟩ -- (-9223372036854775808 : Int) ≤ n12 ∧ n12 ≤ (9223372036854775807 : Int)
        refine ⟨n12, ?_⟩
        refine ⟨by first | with_reducible rfl | rfl, ?_⟩ -- xs = xs
        refine ⟨by first | with_reducible rfl | rfl, ?_⟩ -- n12 = n12
        refine ⟨?_, ?_⟩
        · -- left
          refine ⟨by omega, ?_⟩ -- (0 : Int) ≤ n12 ∧ n12 ≤ (↑xs.length : Int)
          -- (List.take n12.toNat xs).all fx = true
          exact all_next h2.1.1 (by omega) (by omega) h2.2 (by rw [← q9]; exact c4)
        exact by show xs.length - n12.toNat < xs.length - v_4.toNat; omega -- xs.length - n12.toNat < xs.length - v_4.toNat
    · -- no
      refine brd (fun c5 => ?_) (fun c5 => ?_) -- decide (tp xs xs.length < (0 : Int))
      · -- yes
        -- k (AV.tup [AV.int IntKind.i64 (-1 : Int), AV.int IntKind.i64 (0 : Int), AV.int IntKind.i64 (0 : Int)]) [] []
        rw [hi_none (v := v_4) (by omega) h2.2 (by omega) c5] at hk; exact hk
      · -- no
        refine ⟨by omega, ?_⟩ -- (0 : Int) ≤ tp xs xs.length
        have h6 : tp xs xs.length < (↑xs.length : Int) := by
          exact (tp_bd xs xs.length).2.1
        refine ⟨h6, ?_⟩
        intro n15
        intro q15 -- n15 = xs.getD (tp xs xs.length).toNat (0 : Int)
        intro ⟨l15, u15⟩ -- (-9223372036854775808 : Int) ≤ n15 ∧ n15 ≤ (9223372036854775807 : Int)
        -- k (AV.tup [AV.int IntKind.i64 (tp xs xs.length), AV.int IntKind.i64 n15, AV.int IntKind.i64 (0 : Int)]) [] []
        rw [hi_some (v := v_4) (by omega) h2.2 (by omega) c5, ← q15] at hk; exact hk

theorem rhigh_ok : Holds Try.prog 12 highS := by
  refine fn_sound (env := mkEnv T4) (tab_ok T4_ok) Try.func12 Try.call12 fun args k h => ?_
  match args, h with
  | [.sl 1 xs], h => exact ⟨by kernel_rfl, rhighLoops xs, fun _ _ => none, .cast (by kernel_rfl) (rhigh_vc xs k h)⟩
theorem alive_ok : Holds Try.prog 8 trueS := by
  refine fn_sound (env := lenv) lenv_ok Try.func8 Try.call8 fun args k h => ?_
  match args, h with
  | [], h => exact ⟨by kernel_rfl, fun _ _ => none, fun _ _ => none, .cast (by kernel_rfl) h⟩

theorem T5_ok : TabOk Try.prog T5 := ⟨alive_ok, load_ok, rload_ok, smooth_ok, rsmooth_ok, high_ok, rhigh_ok, trivial⟩
end Go.Proofs.Ytmlfpijallccgaa

