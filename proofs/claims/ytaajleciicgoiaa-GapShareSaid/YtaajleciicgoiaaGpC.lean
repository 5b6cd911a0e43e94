import Derived.Test.YtaajleciicgoiaaGpB
namespace Go.Proofs.Ytaajleciicgoiaa
open Go Go.Eng Go.Fx Go.Proofs
set_option linter.unusedVariables false
set_option maxHeartbeats 2000000 in
theorem fix_stop_vc (a : Int) (a0 : (-9223372036854775808 : Int) ≤ a) (a1 : a ≤ (9223372036854775807 : Int)) (k : AV → List (Option Blk) → List Blk → Prop) (hk : ∀ (r : Int), r = stopI a → (-70368744177664 : Int) ≤ r ∧ r ≤ (70368744177664 : Int) → k (AV.int IntKind.i64 r) [] []) :
  ∀ (n1 : Int),
  (n1 = max a (-70368744177664 : Int)) →
  ((-9223372036854775808 : Int) ≤ n1 ∧ n1 ≤ (9223372036854775807 : Int)) →
  ∀ (n4 : Int),
  (n4 = min n1 (70368744177664 : Int)) →
  ((-9223372036854775808 : Int) ≤ n4 ∧ n4 ≤ (9223372036854775807 : Int)) →
  (k (AV.int IntKind.i64 n4) [] []) := by
  intro n1
  intro q1 -- n1 = max a (-70368744177664 : Int)
  intro ⟨l1, u1⟩ -- (-9223372036854775808 : Int) ≤ n1 ∧ n1 ≤ (9223372036854775807 : Int)
  intro n4
  intro q4 -- n4 = min n1 (70368744177664 : Int)
  intro ⟨l4, u4⟩ -- (-9223372036854775808 : Int) ≤ n4 ∧ n4 ≤ (9223372036854775807 : Int)
  exact by exact hk _ (by unfold stopI; omega) (by omega) -- k (AV.int IntKind.i64 n4) [] []

theorem fix_stop_ok : Holds Try.prog 24 (s1 stopI BD) := by
  refine fn_sound (env := mkEnv T0) (tab_ok T0_ok) Try.func24 Try.call24 fun args k h => ?_
  match args, h with
  | [.int .i64 a], h => exact ⟨by kernel_rfl, fun _ _ => none, fun _ _ => none, .cast (by kernel_rfl) (fix_stop_vc a h.1.1 h.1.2 k h.2)⟩
set_option maxHeartbeats 2000000 in
theorem stoplineref01_Stop_vc (a : Int) (a0 : (-9223372036854775808 : Int) ≤ a) (a1 : a ≤ (9223372036854775807 : Int)) (k : AV → List (Option Blk) → List Blk → Prop) (hk : ∀ (r : Int), r = stopI a → (-70368744177664 : Int) ≤ r ∧ r ≤ (70368744177664 : Int) → k (AV.int IntKind.i64 r) [] []) :
  br (decide (a > (70368744177664 : Int)))
   ((k (AV.int IntKind.i64 (70368744177664 : Int)) [] []))
   (br (decide (a < (-70368744177664 : Int)))
     ((k (AV.int IntKind.i64 (-70368744177664 : Int)) [] []))
     ((k (AV.int IntKind.i64 a) [] []))) := by
  refine brd (fun c1 => ?_) (fun c1 => ?_) -- decide (a > (70368744177664 : Int))
  · -- yes
    exact by exact hk _ (by unfold stopI; omega) (by omega) -- k (AV.int IntKind.i64 (70368744177664 : Int)) [] []
  · -- no
    refine brd (fun c2 => ?_) (fun c2 => ?_) -- decide (a < (-70368744177664 : Int))
    · -- yes
      exact by exact hk _ (by unfold stopI; omega) (by omega) -- k (AV.int IntKind.i64 (-70368744177664 : Int)) [] []
    · -- no
      exact by exact hk _ (by unfold stopI; omega) (by omega) -- k (AV.int IntKind.i64 a) [] []

theorem stoplineref01_Stop_ok : Holds Try.prog 25 (s1 stopI BD) := by
  refine fn_sound (env := mkEnv T0) (tab_ok T0_ok) Try.func25 Try.call25 fun args k h => ?_
  match args, h with
  | [.int .i64 a], h => exact ⟨by kernel_rfl, fun _ _ => none, fun _ _ => none, .cast (by kernel_rfl) (stoplineref01_Stop_vc a h.1.1 h.1.2 k h.2)⟩
set_option maxHeartbeats 2000000 in
theorem down_vc (a : Int) (a0 : (-9223372036854775808 : Int) ≤ a) (a1 : a ≤ (9223372036854775807 : Int)) (b : Int) (b0 : (-9223372036854775808 : Int) ≤ b) (b1 : b ≤ (9223372036854775807 : Int)) (hb : (0 : Int) < b) (k : AV → List (Option Blk) → List Blk → Prop) (hk : ∀ (r : Int), r = a / b → True → k (AV.int IntKind.i64 r) [] []) :
  (b ≠ (0 : Int)) ∧
  ∀ (n1 : Int),
  (n1 = IntKind.i64.wrap (a.tdiv b)) →
  ((-9223372036854775808 : Int) ≤ n1 ∧ n1 ≤ (9223372036854775807 : Int)) →
  (b ≠ (0 : Int)) ∧
  ∀ (n4 : Int),
  (n4 = a.tmod b) →
  ((-9223372036854775808 : Int) ≤ n4 ∧ n4 ≤ (9223372036854775807 : Int)) →
  br (bif n4 != (0 : Int) then decide (a < (0 : Int)) else false)
   (∀ (n7 : Int),
    (n7 = IntKind.i64.wrap (n1 - (1 : Int))) →
    ((-9223372036854775808 : Int) ≤ n7 ∧ n7 ≤ (9223372036854775807 : Int)) →
    (k (AV.int IntKind.i64 n7) [] []))
   ((k (AV.int IntKind.i64 n1) [] [])) := by
  refine ⟨by first | omega | (dsimp only; omega), ?_⟩ -- b ≠ (0 : Int)
  intro n1
  intro q1 -- n1 = IntKind.i64.wrap (a.tdiv b)
  rw [IntKind.wrap_i64] at q1
  intro ⟨l1, u1⟩ -- (-9223372036854775808 : Int) ≤ n1 ∧ n1 ≤ (9223372036854775807 : Int)
  refine ⟨by first | omega | (dsimp only; omega), ?_⟩ -- b ≠ (0 : Int)
  intro n4
  intro q4 -- n4 = a.tmod b
  intro ⟨l4, u4⟩ -- (-9223372036854775808 : Int) ≤ n4 ∧ n4 ≤ (9223372036854775807 : Int)
  refine br_intro (fun c1 => ?_) (fun c1 => ?_) -- bif n4 != (0 : Int) then decide (a < (0 : Int)) else false
  · -- yes
    simp at c1 -- ¬n4 = (0 : Int) ∧ a < (0 : Int)
    intro n7
    intro q7 -- n7 = IntKind.i64.wrap (n1 - (1 : Int))
    rw [IntKind.wrap_i64] at q7
    intro ⟨l7, u7⟩ -- (-9223372036854775808 : Int) ≤ n7 ∧ n7 ≤ (9223372036854775807 : Int)
    -- k (AV.int IntKind.i64 n7) [] []
    exact hk _ ((down_code a b n1 n4 n7 hb a0 a1 q1 q4).1 ⟨c1.1, c1.2⟩ q7) trivial
  · -- no
    simp at c1 -- ¬n4 = (0 : Int) → (0 : Int) ≤ a
    -- k (AV.int IntKind.i64 n1) [] []
    exact hk _ ((down_code a b n1 n4 0 hb a0 a1 q1 q4).2 c1) trivial

theorem down_ok : Holds Try.prog 26 downS := by
  refine fn_sound (env := mkEnv T0) (tab_ok T0_ok) Try.func26 Try.call26 fun args k h => ?_
  match args, h with
  | [.int .i64 a, .int .i64 b], h => exact ⟨by kernel_rfl, fun _ _ => none, fun _ _ => none, .cast (by kernel_rfl) (down_vc a h.1.1 h.1.2 b h.2.1.1 h.2.1.2 h.2.2.1 k h.2.2.2)⟩
theorem T1_ok : TabOk Try.prog T1 := ⟨fix_stop_ok, stoplineref01_Stop_ok, down_ok, trivial⟩
set_option maxHeartbeats 2000000 in
theorem fix_Of_vc (a : Int) (a0 : (-9223372036854775808 : Int) ≤ a) (a1 : a ≤ (9223372036854775807 : Int)) (k : AV → List (Option Blk) → List Blk → Prop) (hk : ∀ (r : Int), r = ofI a → (-70368744177664 : Int) ≤ r ∧ r ≤ (70368744177664 : Int) → k (AV.int IntKind.i64 r) [] []) :
  ∀ (n1 : Int),
  (n1 = max a (-1073741824 : Int)) →
  ((-9223372036854775808 : Int) ≤ n1 ∧ n1 ≤ (9223372036854775807 : Int)) →
  ∀ (n4 : Int),
  (n4 = min n1 (1073741824 : Int)) →
  ((-9223372036854775808 : Int) ≤ n4 ∧ n4 ≤ (9223372036854775807 : Int)) →
  ∀ (n7 : Int),
  (n7 = IntKind.i64.wrap (n4 * (65536 : Int))) →
  ((-9223372036854775808 : Int) ≤ n7 ∧ n7 ≤ (9223372036854775807 : Int)) →
  (k (AV.int IntKind.i64 n7) [] []) := by
  intro n1
  intro q1 -- n1 = max a (-1073741824 : Int)
  intro ⟨l1, u1⟩ -- (-9223372036854775808 : Int) ≤ n1 ∧ n1 ≤ (9223372036854775807 : Int)
  intro n4
  intro q4 -- n4 = min n1 (1073741824 : Int)
  intro ⟨l4, u4⟩ -- (-9223372036854775808 : Int) ≤ n4 ∧ n4 ≤ (9223372036854775807 : Int)
  intro n7
  intro q7 -- n7 = IntKind.i64.wrap (n4 * (65536 : Int))
  rw [IntKind.wrap_i64] at q7
  intro ⟨l7, u7⟩ -- (-9223372036854775808 : Int) ≤ n7 ∧ n7 ≤ (9223372036854775807 : Int)
  exact by exact hk _ (by unfold ofI; omega) (by omega) -- k (AV.int IntKind.i64 n7) [] []

theorem fix_Of_ok : Holds Try.prog 19 (s1 ofI BD) := by
  refine fn_sound (env := mkEnv T1) (tab_ok T1_ok) Try.func19 Try.call19 fun args k h => ?_
  match args, h with
  | [.int .i64 a], h => exact ⟨by kernel_rfl, fun _ _ => none, fun _ _ => none, .cast (by kernel_rfl) (fix_Of_vc a h.1.1 h.1.2 k h.2)⟩
set_option maxHeartbeats 2000000 in
theorem rOf_vc (a : Int) (a0 : (-9223372036854775808 : Int) ≤ a) (a1 : a ≤ (9223372036854775807 : Int)) (k : AV → List (Option Blk) → List Blk → Prop) (hk : ∀ (r : Int), r = ofI a → (-70368744177664 : Int) ≤ r ∧ r ≤ (70368744177664 : Int) → k (AV.int IntKind.i64 r) [] []) :
  br (decide (a > (1073741824 : Int)))
   ((k (AV.int IntKind.i64 (70368744177664 : Int)) [] []))
   (br (decide (a < (-1073741824 : Int)))
     ((k (AV.int IntKind.i64 (-70368744177664 : Int)) [] []))
     (∀ (n1 : Int),
      (n1 = IntKind.i64.wrap (a * (65536 : Int))) →
      ((-9223372036854775808 : Int) ≤ n1 ∧ n1 ≤ (9223372036854775807 : Int)) →
      (k (AV.int IntKind.i64 n1) [] []))) := by
  refine brd (fun c1 => ?_) (fun c1 => ?_) -- decide (a > (1073741824 : Int))
  · -- yes
    exact by exact hk _ (by unfold ofI; omega) (by omega) -- k (AV.int IntKind.i64 (70368744177664 : Int)) [] []
  · -- no
    refine brd (fun c2 => ?_) (fun c2 => ?_) -- decide (a < (-1073741824 : Int))
    · -- yes
      exact by exact hk _ (by unfold ofI; omega) (by omega) -- k (AV.int IntKind.i64 (-70368744177664 : Int)) [] []
    · -- no
      intro n1
      intro q1 -- n1 = IntKind.i64.wrap (a * (65536 : Int))
      rw [IntKind.wrap_i64] at q1
      intro ⟨l1, u1⟩ -- (-9223372036854775808 : Int) ≤ n1 ∧ n1 ≤ (9223372036854775807 : Int)
      exact by exact hk _ (by unfold ofI; omega) (by omega) -- k (AV.int IntKind.i64 n1) [] []

theorem rOf_ok : Holds Try.prog 23 (s1 ofI BD) := by
  refine fn_sound (env := mkEnv T1) (tab_ok T1_ok) Try.func23 Try.call23 fun args k h => ?_
  match args, h with
  | [.int .i64 a], h => exact ⟨by kernel_rfl, fun _ _ => none, fun _ _ => none, .cast (by kernel_rfl) (rOf_vc a h.1.1 h.1.2 k h.2)⟩
set_option maxHeartbeats 2000000 in
theorem fix_Div_vc (a : Int) (a0 : (-9223372036854775808 : Int) ≤ a) (a1 : a ≤ (9223372036854775807 : Int)) (b : Int) (b0 : (-9223372036854775808 : Int) ≤ b) (b1 : b ≤ (9223372036854775807 : Int)) (k : AV → List (Option Blk) → List Blk → Prop) (hk : ∀ (q e : Int), q = divQ a b → e = divE b → (-70368744177664 : Int) ≤ q ∧ q ≤ (70368744177664 : Int) → e = (0 : Int) ∨ e = (10 : Int) → k (AV.tup [AV.int IntKind.i64 q, AV.int IntKind.i64 e]) [] []) :
  (
   ((-9223372036854775808 : Int) ≤ a) ∧
   (a ≤ (9223372036854775807 : Int))) ∧
  ∀ (r_1 : Int),
  (r_1 = stopI a) →
  ((-70368744177664 : Int) ≤ r_1 ∧ r_1 ≤ (70368744177664 : Int)) →
  (
   ((-9223372036854775808 : Int) ≤ b) ∧
   (b ≤ (9223372036854775807 : Int))) ∧
  ∀ (r_4 : Int),
  (r_4 = stopI b) →
  ((-70368744177664 : Int) ≤ r_4 ∧ r_4 ≤ (70368744177664 : Int)) →
  br (r_4 == (0 : Int))
   ((k (AV.tup [AV.int IntKind.i64 (0 : Int), AV.int IntKind.i64 (10 : Int)]) [] []))
   (∀ (n7 : Int),
    (n7 = IntKind.i64.wrap (r_1 * (65536 : Int))) →
    ((-9223372036854775808 : Int) ≤ n7 ∧ n7 ≤ (9223372036854775807 : Int)) →
    (r_4 ≠ (0 : Int)) ∧
    ∀ (n10 : Int),
    (n10 = IntKind.i64.wrap (n7.tdiv r_4)) →
    ((-9223372036854775808 : Int) ≤ n10 ∧ n10 ≤ (9223372036854775807 : Int)) →
    (r_4 ≠ (0 : Int)) ∧
    ∀ (n13 : Int),
    (n13 = n7.tmod r_4) →
    ((-9223372036854775808 : Int) ≤ n13 ∧ n13 ≤ (9223372036854775807 : Int)) →
    br (bif n13 != (0 : Int) then !decide (n7 < (0 : Int)) == decide (r_4 < (0 : Int)) else false)
     (∀ (n16 : Int),
      (n16 = IntKind.i64.wrap (n10 - (1 : Int))) →
      ((-9223372036854775808 : Int) ≤ n16 ∧ n16 ≤ (9223372036854775807 : Int)) →
      (
       ((-9223372036854775808 : Int) ≤ n16) ∧
       (n16 ≤ (9223372036854775807 : Int))) ∧
      ∀ (r_19 : Int),
      (r_19 = stopI n16) →
      ((-70368744177664 : Int) ≤ r_19 ∧ r_19 ≤ (70368744177664 : Int)) →
      (k (AV.tup [AV.int IntKind.i64 r_19, AV.int IntKind.i64 (0 : Int)]) [] []))
     ((
       ((-9223372036854775808 : Int) ≤ n10) ∧
       (n10 ≤ (9223372036854775807 : Int))) ∧
      ∀ (r_22 : Int),
      (r_22 = stopI n10) →
      ((-70368744177664 : Int) ≤ r_22 ∧ r_22 ≤ (70368744177664 : Int)) →
      (k (AV.tup [AV.int IntKind.i64 r_22, AV.int IntKind.i64 (0 : Int)]) [] []))) := by
  refine ⟨by exact ⟨by assumption, by assumption⟩, ?_⟩ -- (-9223372036854775808 : Int) ≤ a ∧ a ≤ (9223372036854775807 : Int)
  intro r_1
  intro h1 -- r_1 = stopI a
  intro ⟨a2, b2⟩ -- (-70368744177664 : Int) ≤ r_1 ∧ r_1 ≤ (70368744177664 : Int)
  refine ⟨by exact ⟨by assumption, by assumption⟩, ?_⟩ -- (-9223372036854775808 : Int) ≤ b ∧ b ≤ (9223372036854775807 : Int)
  intro r_4
  intro h3 -- r_4 = stopI b
  intro ⟨a4, b4⟩ -- (-70368744177664 : Int) ≤ r_4 ∧ r_4 ≤ (70368744177664 : Int)
  refine br_intro (fun c5 => ?_) (fun c5 => ?_) -- r_4 == (0 : Int)
  · -- yes
    simp at c5 -- r_4 = (0 : Int)
    -- k (AV.tup [AV.int IntKind.i64 (0 : Int), AV.int IntKind.i64 (10 : Int)]) [] []
    exact hk _ _ (by unfold divQ; rw [← h3, if_pos c5]) (by unfold divE; rw [← h3, if_pos c5]) (by omega) (by omega)
  · -- no
    simp at c5 -- ¬r_4 = (0 : Int)
    intro n7
    intro q7 -- n7 = IntKind.i64.wrap (r_1 * (65536 : Int))
    rw [IntKind.wrap_i64] at q7
    intro ⟨l7, u7⟩ -- (-9223372036854775808 : Int) ≤ n7 ∧ n7 ≤ (9223372036854775807 : Int)
    refine ⟨by assumption, ?_⟩ -- r_4 ≠ (0 : Int)
    intro n10
    intro q10 -- n10 = IntKind.i64.wrap (n7.tdiv r_4)
    rw [IntKind.wrap_i64] at q10
    intro ⟨l10, u10⟩ -- (-9223372036854775808 : Int) ≤ n10 ∧ n10 ≤ (9223372036854775807 : Int)
    refine ⟨by assumption, ?_⟩ -- r_4 ≠ (0 : Int)
    intro n13
    intro q13 -- n13 = n7.tmod r_4
    intro ⟨l13, u13⟩ -- (-9223372036854775808 : Int) ≤ n13 ∧ n13 ≤ (9223372036854775807 : Int)
    refine br_intro (fun c6 => ?_) (fun c6 => ?_) -- bif n13 != (0 : Int) then !decide (n7 < (0 : Int)) == decide (r_4 < (0 : Int)) else false
    · -- yes
      simp at c6 -- ¬n13 = (0 : Int) ∧ ¬(n7 < (0 : Int) ↔ r_4 < (0 : Int))
      intro n16
      intro q16 -- n16 = IntKind.i64.wrap (n10 - (1 : Int))
      rw [IntKind.wrap_i64] at q16
      intro ⟨l16, u16⟩ -- (-9223372036854775808 : Int) ≤ n16 ∧ n16 ≤ (9223372036854775807 : Int)
      refine ⟨by exact ⟨by assumption, by assumption⟩, ?_⟩ -- (-9223372036854775808 : Int) ≤ n16 ∧ n16 ≤ (9223372036854775807 : Int)
      intro r_19
      intro h7 -- r_19 = stopI n16
      intro ⟨a8, b8⟩ -- (-70368744177664 : Int) ≤ r_19 ∧ r_19 ≤ (70368744177664 : Int)
      -- k (AV.tup [AV.int IntKind.i64 r_19, AV.int IntKind.i64 (0 : Int)]) [] []
      have e := (div_code r_1 r_4 n7 n10 n13 ⟨a2, b2⟩ c5 q7 q10 q13).1 c6 n16 q16
      exact hk _ _ (by unfold divQ; rw [← h3, if_neg c5, ← h1, ← e]; exact h7) (by unfold divE; rw [← h3, if_neg c5]) ⟨a8, b8⟩ (by omega)
    · -- no
      simp at c6 -- ¬n13 = (0 : Int) → (n7 < (0 : Int) ↔ r_4 < (0 : Int))
      refine ⟨by exact ⟨by assumption, by assumption⟩, ?_⟩ -- (-9223372036854775808 : Int) ≤ n10 ∧ n10 ≤ (9223372036854775807 : Int)
      intro r_22
      intro h9 -- r_22 = stopI n10
      intro ⟨a10, b10⟩ -- (-70368744177664 : Int) ≤ r_22 ∧ r_22 ≤ (70368744177664 : Int)
      -- k (AV.tup [AV.int IntKind.i64 r_22, AV.int IntKind.i64 (0 : Int)]) [] []
      have e := (div_code r_1 r_4 n7 n10 n13 ⟨a2, b2⟩ c5 q7 q10 q13).2 c6
      exact hk _ _ (by unfold divQ; rw [← h3, if_neg c5, ← h1, ← e]; exact h9) (by unfold divE; rw [← h3, if_neg c5]) ⟨a10, b10⟩ (by omega)

theorem fix_Div_ok : Holds Try.prog 18 divS := by
  refine fn_sound (env := mkEnv T1) (tab_ok T1_ok) Try.func18 Try.call18 fun args k h => ?_
  match args, h with
  | [.int .i64 a, .int .i64 b], h => exact ⟨by kernel_rfl, fun _ _ => none, fun _ _ => none, .cast (by kernel_rfl) (fix_Div_vc a h.1.1 h.1.2 b h.2.1.1 h.2.1.2 k h.2.2)⟩
set_option maxHeartbeats 2000000 in
theorem rDiv_vc (a : Int) (a0 : (-9223372036854775808 : Int) ≤ a) (a1 : a ≤ (9223372036854775807 : Int)) (b : Int) (b0 : (-9223372036854775808 : Int) ≤ b) (b1 : b ≤ (9223372036854775807 : Int)) (k : AV → List (Option Blk) → List Blk → Prop) (hk : ∀ (q e : Int), q = divQ a b → e = divE b → (-70368744177664 : Int) ≤ q ∧ q ≤ (70368744177664 : Int) → e = (0 : Int) ∨ e = (10 : Int) → k (AV.tup [AV.int IntKind.i64 q, AV.int IntKind.i64 e]) [] []) :
  (
   ((-9223372036854775808 : Int) ≤ a) ∧
   (a ≤ (9223372036854775807 : Int))) ∧
  ∀ (r_1 : Int),
  (r_1 = stopI a) →
  ((-70368744177664 : Int) ≤ r_1 ∧ r_1 ≤ (70368744177664 : Int)) →
  (
   ((-9223372036854775808 : Int) ≤ b) ∧
   (b ≤ (9223372036854775807 : Int))) ∧
  ∀ (r_4 : Int),
  (r_4 = stopI b) →
  ((-70368744177664 : Int) ≤ r_4 ∧ r_4 ≤ (70368744177664 : Int)) →
  br (r_4 == (0 : Int))
   ((k (AV.tup [AV.int IntKind.i64 (0 : Int), AV.int IntKind.i64 (10 : Int)]) [] []))
   (br (decide (r_4 < (0 : Int)))
     (∀ (n7 : Int),
      (n7 = IntKind.i64.wrap ((0 : Int) - r_1)) →
      ((-9223372036854775808 : Int) ≤ n7 ∧ n7 ≤ (9223372036854775807 : Int)) →
      ∀ (n10 : Int),
      (n10 = IntKind.i64.wrap ((0 : Int) - r_4)) →
      ((-9223372036854775808 : Int) ≤ n10 ∧ n10 ≤ (9223372036854775807 : Int)) →
      ∀ (n13 : Int),
      (n13 = IntKind.i64.wrap (n7 * (65536 : Int))) →
      ((-9223372036854775808 : Int) ≤ n13 ∧ n13 ≤ (9223372036854775807 : Int)) →
      (
       ((-9223372036854775808 : Int) ≤ n13) ∧
       (n13 ≤ (9223372036854775807 : Int))) ∧
      (
       ((-9223372036854775808 : Int) ≤ n10) ∧
       (n10 ≤ (9223372036854775807 : Int))) ∧
      ((0 : Int) < n10) ∧
      ∀ (r_16 : Int),
      (r_16 = n13 / n10) →
      (True) →
      (
       ((-9223372036854775808 : Int) ≤ r_16) ∧
       (r_16 ≤ (9223372036854775807 : Int))) ∧
      ∀ (r_19 : Int),
      (r_19 = stopI r_16) →
      ((-70368744177664 : Int) ≤ r_19 ∧ r_19 ≤ (70368744177664 : Int)) →
      (k (AV.tup [AV.int IntKind.i64 r_19, AV.int IntKind.i64 (0 : Int)]) [] []))
     (∀ (n22 : Int),
      (n22 = IntKind.i64.wrap (r_1 * (65536 : Int))) →
      ((-9223372036854775808 : Int) ≤ n22 ∧ n22 ≤ (9223372036854775807 : Int)) →
      (
       ((-9223372036854775808 : Int) ≤ n22) ∧
       (n22 ≤ (9223372036854775807 : Int))) ∧
      (
       ((-9223372036854775808 : Int) ≤ r_4) ∧
       (r_4 ≤ (9223372036854775807 : Int))) ∧
      ((0 : Int) < r_4) ∧
      ∀ (r_25 : Int),
      (r_25 = n22 / r_4) →
      (True) →
      (
       ((-9223372036854775808 : Int) ≤ r_25) ∧
       (r_25 ≤ (9223372036854775807 : Int))) ∧
      ∀ (r_28 : Int),
      (r_28 = stopI r_25) →
      ((-70368744177664 : Int) ≤ r_28 ∧ r_28 ≤ (70368744177664 : Int)) →
      (k (AV.tup [AV.int IntKind.i64 r_28, AV.int IntKind.i64 (0 : Int)]) [] []))) := by
  refine ⟨by exact ⟨by assumption, by assumption⟩, ?_⟩ -- (-9223372036854775808 : Int) ≤ a ∧ a ≤ (9223372036854775807 : Int)
  intro r_1
  intro h1 -- r_1 = stopI a
  intro ⟨a2, b2⟩ -- (-70368744177664 : Int) ≤ r_1 ∧ r_1 ≤ (70368744177664 : Int)
  refine ⟨by exact ⟨by assumption, by assumption⟩, ?_⟩ -- (-9223372036854775808 : Int) ≤ b ∧ b ≤ (9223372036854775807 : Int)
  intro r_4
  intro h3 -- r_4 = stopI b
  intro ⟨a4, b4⟩ -- (-70368744177664 : Int) ≤ r_4 ∧ r_4 ≤ (70368744177664 : Int)
  refine br_intro (fun c5 => ?_) (fun c5 => ?_) -- r_4 == (0 : Int)
  · -- yes
    simp at c5 -- r_4 = (0 : Int)
    -- k (AV.tup [AV.int IntKind.i64 (0 : Int), AV.int IntKind.i64 (10 : Int)]) [] []
    exact hk _ _ (by unfold divQ; rw [← h3, if_pos c5]) (by unfold divE; rw [← h3, if_pos c5]) (by omega) (by omega)
  · -- no
    simp at c5 -- ¬r_4 = (0 : Int)
    refine brd (fun c6 => ?_) (fun c6 => ?_) -- decide (r_4 < (0 : Int))
    · -- yes
      intro n7
      intro q7 -- n7 = IntKind.i64.wrap ((0 : Int) - r_1)
      rw [IntKind.wrap_i64] at q7
      intro ⟨l7, u7⟩ -- (-9223372036854775808 : Int) ≤ n7 ∧ n7 ≤ (9223372036854775807 : Int)
      intro n10
      intro q10 -- n10 = IntKind.i64.wrap ((0 : Int) - r_4)
      rw [IntKind.wrap_i64] at q10
      intro ⟨l10, u10⟩ -- (-9223372036854775808 : Int) ≤ n10 ∧ n10 ≤ (9223372036854775807 : Int)
      intro n13
      intro q13 -- n13 = IntKind.i64.wrap (n7 * (65536 : Int))
      rw [IntKind.wrap_i64] at q13
      intro ⟨l13, u13⟩ -- (-9223372036854775808 : Int) ≤ n13 ∧ n13 ≤ (9223372036854775807 : Int)
      refine ⟨by exact ⟨by assumption, by assumption⟩, ?_⟩ -- (-9223372036854775808 : Int) ≤ n13 ∧ n13 ≤ (9223372036854775807 : Int)
      refine ⟨by exact ⟨by assumption, by assumption⟩, ?_⟩ -- (-9223372036854775808 : Int) ≤ n10 ∧ n10 ≤ (9223372036854775807 : Int)
      refine ⟨by first | omega | (dsimp only; omega), ?_⟩ -- (0 : Int) < n10
      intro r_16
      intro h7 -- r_16 = n13 / n10
      have e7 : -4611686018427387904 ≤ r_16 ∧ r_16 ≤ 4611686018427387904 := by (rw [h7]; exact ediv_bd n13 n10 4611686018427387904 (by omega) (by omega) (by omega) (by omega))
      intro h8 -- True
      refine ⟨by first | omega | (dsimp only; omega), ?_⟩ -- (-9223372036854775808 : Int) ≤ r_16 ∧ r_16 ≤ (9223372036854775807 : Int)
      intro r_19
      intro h9 -- r_19 = stopI r_16
      intro ⟨a10, b10⟩ -- (-70368744177664 : Int) ≤ r_19 ∧ r_19 ≤ (70368744177664 : Int)
      -- k (AV.tup [AV.int IntKind.i64 r_19, AV.int IntKind.i64 (0 : Int)]) [] []
      exact hk _ _ (by unfold divQ; rw [← h3, if_neg c5, ← h1, h9, h7, ← Int.neg_fdiv_neg, Int.fdiv_eq_ediv_of_nonneg _ (by omega)]; congr 2 <;> omega) (by unfold divE; rw [← h3, if_neg c5]) ⟨a10, b10⟩ (by omega)
    · -- no
      intro n22
      intro q22 -- n22 = IntKind.i64.wrap (r_1 * (65536 : Int))
      rw [IntKind.wrap_i64] at q22
      intro ⟨l22, u22⟩ -- (-9223372036854775808 : Int) ≤ n22 ∧ n22 ≤ (9223372036854775807 : Int)
      refine ⟨by exact ⟨by assumption, by assumption⟩, ?_⟩ -- (-9223372036854775808 : Int) ≤ n22 ∧ n22 ≤ (9223372036854775807 : Int)
      refine ⟨by first | omega | (dsimp only; omega), ?_⟩ -- (-9223372036854775808 : Int) ≤ r_4 ∧ r_4 ≤ (9223372036854775807 : Int)
      refine ⟨by first | omega | (dsimp only; omega), ?_⟩ -- (0 : Int) < r_4
      intro r_25
      intro h11 -- r_25 = n22 / r_4
      have e11 : -4611686018427387904 ≤ r_25 ∧ r_25 ≤ 4611686018427387904 := by (rw [h11]; exact ediv_bd n22 r_4 4611686018427387904 (by omega) (by omega) (by omega) (by omega))
      intro h12 -- True
      refine ⟨by first | omega | (dsimp only; omega), ?_⟩ -- (-9223372036854775808 : Int) ≤ r_25 ∧ r_25 ≤ (9223372036854775807 : Int)
      intro r_28
      intro h13 -- r_28 = stopI r_25
      intro ⟨a14, b14⟩ -- (-70368744177664 : Int) ≤ r_28 ∧ r_28 ≤ (70368744177664 : Int)
      -- k (AV.tup [AV.int IntKind.i64 r_28, AV.int IntKind.i64 (0 : Int)]) [] []
      exact hk _ _ (by unfold divQ; rw [← h3, if_neg c5, ← h1, h13, h11, Int.fdiv_eq_ediv_of_nonneg _ (by omega)]; congr 2; omega) (by unfold divE; rw [← h3, if_neg c5]) ⟨a14, b14⟩ (by omega)

theorem rDiv_ok : Holds Try.prog 22 divS := by
  refine fn_sound (env := mkEnv T1) (tab_ok T1_ok) Try.func22 Try.call22 fun args k h => ?_
  match args, h with
  | [.int .i64 a, .int .i64 b], h => exact ⟨by kernel_rfl, fun _ _ => none, fun _ _ => none, .cast (by kernel_rfl) (rDiv_vc a h.1.1 h.1.2 b h.2.1.1 h.2.1.2 k h.2.2)⟩
set_option maxHeartbeats 2000000 in
theorem check_vc (gu : Bool) (gh : Int) (gh0 : (-9223372036854775808 : Int) ≤ gh) (gh1 : gh ≤ (9223372036854775807 : Int)) (gp : Int) (gp0 : (-9223372036854775808 : Int) ≤ gp) (gp1 : gp ≤ (9223372036854775807 : Int)) (gc : Int) (gc0 : (-9223372036854775808 : Int) ≤ gc) (gc1 : gc ≤ (9223372036854775807 : Int)) (gl : Int) (gl0 : (0 : Int) ≤ gl) (gl1 : gl ≤ (18446744073709551615 : Int)) (k : AV → List (Option Blk) → List Blk → Prop) (hk : ∀ (e : Int), e = gE gu gh gp gc gl → e = (0 : Int) ∨ e = (8 : Int) → k (AV.int IntKind.i64 e) [] []) :
  ∀ (n1 : Int),
  (n1 = gh) →
  ((-9223372036854775808 : Int) ≤ n1 ∧ n1 ≤ (9223372036854775807 : Int)) →
  ∀ (n4 : Int),
  (n4 = gp) →
  ((-9223372036854775808 : Int) ≤ n4 ∧ n4 ≤ (9223372036854775807 : Int)) →
  ∀ (n7 : Int),
  (n7 = gc) →
  ((-9223372036854775808 : Int) ≤ n7 ∧ n7 ≤ (9223372036854775807 : Int)) →
  ∀ (n10 : Int),
  (n10 = min (min n1 n4) n7) →
  ((-9223372036854775808 : Int) ≤ n10 ∧ n10 ≤ (9223372036854775807 : Int)) →
  ∀ (n13 : Int),
  (n13 = gh) →
  ∀ (n15 : Int),
  (n15 = gp) →
  ∀ (n17 : Int),
  (n17 = max n13 n15) →
  ∀ (n19 : Int),
  (n19 = gc) →
  br (bif bif decide (n10 < (0 : Int)) then true else decide (n17 > (1048576 : Int)) then true else decide (n19 > (1073741824 : Int)))
   ((k (AV.int IntKind.i64 (8 : Int)) [] []))
   (∀ (n21 : Int),
    (n21 = gp) →
    br (bif gu then n21 != (0 : Int) else false)
     (br (bif gu then n21 != (0 : Int) else false)
       ((k (AV.int IntKind.i64 (8 : Int)) [] []))
       ((k (AV.int IntKind.i64 (0 : Int)) [] [])))
     (∀ (n23 : Int),
      (n23 = gh) →
      br (bif !gu then n23 != (0 : Int) else false)
       (br (bif !gu then n23 != (0 : Int) else false)
         ((k (AV.int IntKind.i64 (8 : Int)) [] []))
         ((k (AV.int IntKind.i64 (0 : Int)) [] [])))
       (∀ (n25 : Int),
        (n25 = gl) →
        ((0 : Int) ≤ n25 ∧ n25 ≤ (18446744073709551615 : Int)) →
        ∀ (n28 : Int),
        (n28 = bits BinOp.and IntKind.u64 n25 (1 : Int)) →
        ((0 : Int) ≤ n28 ∧ n28 ≤ (18446744073709551615 : Int)) →
        br (!gu == (n28 == (1 : Int)))
         ((k (AV.int IntKind.i64 (8 : Int)) [] []))
         ((k (AV.int IntKind.i64 (0 : Int)) [] []))))) := by
  intro n1
  intro q1 -- n1 = gh
  intro ⟨l1, u1⟩ -- (-9223372036854775808 : Int) ≤ n1 ∧ n1 ≤ (9223372036854775807 : Int)
  intro n4
  intro q4 -- n4 = gp
  intro ⟨l4, u4⟩ -- (-9223372036854775808 : Int) ≤ n4 ∧ n4 ≤ (9223372036854775807 : Int)
  intro n7
  intro q7 -- n7 = gc
  intro ⟨l7, u7⟩ -- (-9223372036854775808 : Int) ≤ n7 ∧ n7 ≤ (9223372036854775807 : Int)
  intro n10
  intro q10 -- n10 = min (min n1 n4) n7
  intro ⟨l10, u10⟩ -- (-9223372036854775808 : Int) ≤ n10 ∧ n10 ≤ (9223372036854775807 : Int)
  intro n13
  intro q13 -- n13 = gh
  intro n15
  intro q15 -- n15 = gp
  intro n17
  intro q17 -- n17 = max n13 n15
  intro n19
  intro q19 -- n19 = gc
  refine br_intro (fun c1 => ?_) (fun c1 => ?_) -- bif bif decide (n10 < (0 : Int)) then true else decide (n17 > (1048576 : Int)) then true else decide (n19 > (1073741824 : Int))
  · -- yes
    simp at c1 -- (n10 < (0 : Int) ∨ (1048576 : Int) < n17) ∨ (1073741824 : Int) < n19
    -- k (AV.int IntKind.i64 (8 : Int)) [] []
    exact hk 8 (gE_bad1 (by omega)).symm (by omega)
  · -- no
    simp at c1 -- ((0 : Int) ≤ n10 ∧ n17 ≤ (1048576 : Int)) ∧ n19 ≤ (1073741824 : Int)
    intro n21
    intro q21 -- n21 = gp
    refine br_intro (fun c2 => ?_) (fun c2 => ?_) -- bif gu then n21 != (0 : Int) else false
    · -- yes
      simp at c2 -- gu = true ∧ ¬n21 = (0 : Int)
      refine br_intro (fun c3 => ?_) (fun c3 => ?_) -- bif gu then n21 != (0 : Int) else false
      · -- yes
        simp at c3 -- gu = true ∧ ¬n21 = (0 : Int)
        -- k (AV.int IntKind.i64 (8 : Int)) [] []
        exact hk 8 (gE_bad2 c3.1 (by omega)).symm (by omega)
      · -- no
        simp at c3 -- gu = true → n21 = (0 : Int)
        -- k (AV.int IntKind.i64 (0 : Int)) [] []
        exact absurd (c3 c2.1) c2.2
    · -- no
      simp at c2 -- gu = true → n21 = (0 : Int)
      intro n23
      intro q23 -- n23 = gh
      refine br_intro (fun c4 => ?_) (fun c4 => ?_) -- bif !gu then n23 != (0 : Int) else false
      · -- yes
        simp at c4 -- gu = false ∧ ¬n23 = (0 : Int)
        refine br_intro (fun c5 => ?_) (fun c5 => ?_) -- bif !gu then n23 != (0 : Int) else false
        · -- yes
          simp at c5 -- gu = false ∧ ¬n23 = (0 : Int)
          -- k (AV.int IntKind.i64 (8 : Int)) [] []
          exact hk 8 (gE_bad3 c5.1 (by omega)).symm (by omega)
        · -- no
          simp at c5 -- gu = false → n23 = (0 : Int)
          -- k (AV.int IntKind.i64 (0 : Int)) [] []
          exact absurd (c5 c4.1) c4.2
      · -- no
        simp at c4 -- gu = false → n23 = (0 : Int)
        intro n25
        intro q25 -- n25 = gl
        intro ⟨l25, u25⟩ -- (0 : Int) ≤ n25 ∧ n25 ≤ (18446744073709551615 : Int)
        intro n28
        intro q28 -- n28 = bits BinOp.and IntKind.u64 n25 (1 : Int)
        rw [and_u64 1 (by decide) 1 2 (by decide) (by decide) _ (by omega) (by omega)] at q28
        intro ⟨l28, u28⟩ -- (0 : Int) ≤ n28 ∧ n28 ≤ (18446744073709551615 : Int)
        refine br_intro (fun c6 => ?_) (fun c6 => ?_) -- !gu == (n28 == (1 : Int))
        · -- yes
          simp at c6 -- ¬gu = (n28 == (1 : Int))
          -- k (AV.int IntKind.i64 (8 : Int)) [] []
          exact hk 8 (gE_bad4 (r := n28) (by omega) c6).symm (by omega)
        · -- no
          simp at c6 -- gu = (n28 == (1 : Int))
          -- k (AV.int IntKind.i64 (0 : Int)) [] []
          exact hk 0 (gE_good (by omega) (fun h => by have := c2 h; omega) (fun h => by have := c4 h; omega) (by omega) c6).symm (by omega)

theorem check_ok : Holds Try.prog 17 checkS := by
  refine fn_sound (env := mkEnv T0) (tab_ok T0_ok) Try.func17 Try.call17 fun args k h => ?_
  match args, h with
  | [.agg [.bool gu, .int .i64 gh, .int .i64 gp, .int .i64 gc, .int .u64 gl]], h => exact ⟨by kernel_rfl, fun _ _ => none, fun _ _ => none, .cast (by kernel_rfl) (check_vc gu gh h.1.1 h.1.2 gp h.2.1.1 h.2.1.2 gc h.2.2.1.1 h.2.2.1.2 gl h.2.2.2.1.1 h.2.2.2.1.2 k h.2.2.2.2)⟩
set_option maxHeartbeats 2000000 in
theorem may_vc (gu : Bool) (gh : Int) (gh0 : (-9223372036854775808 : Int) ≤ gh) (gh1 : gh ≤ (9223372036854775807 : Int)) (gp : Int) (gp0 : (-9223372036854775808 : Int) ≤ gp) (gp1 : gp ≤ (9223372036854775807 : Int)) (gc : Int) (gc0 : (-9223372036854775808 : Int) ≤ gc) (gc1 : gc ≤ (9223372036854775807 : Int)) (gl : Int) (gl0 : (0 : Int) ≤ gl) (gl1 : gl ≤ (18446744073709551615 : Int)) (k : AV → List (Option Blk) → List Blk → Prop) (hk : ∀ (b : Bool), (b = true ↔ gE gu gh gp gc gl = (0 : Int)) → k (AV.bool b) [] []) :
  ∀ (n1 : Int),
  (n1 = gh) →
  ((-9223372036854775808 : Int) ≤ n1 ∧ n1 ≤ (9223372036854775807 : Int)) →
  ∀ (n4 : Int),
  (n4 = gh) →
  ∀ (n6 : Int),
  (n6 = gp) →
  ∀ (n8 : Int),
  (n8 = gp) →
  ∀ (n10 : Int),
  (n10 = gc) →
  ∀ (n12 : Int),
  (n12 = gc) →
  br (bif bif bif bif bif decide (n1 < (0 : Int)) then true else decide (n4 > (1048576 : Int)) then true else decide (n6 < (0 : Int)) then true else decide (n8 > (1048576 : Int)) then true else decide (n10 < (0 : Int)) then true else decide (n12 > (1073741824 : Int)))
   ((k (AV.bool false) [] []))
   (∀ (n14 : Int),
    (n14 = gh) →
    ∀ (n16 : Int),
    (n16 = gp) →
    br (bif bif !gu then n14 != (0 : Int) else false then true else bif gu then n16 != (0 : Int) else false)
     ((k (AV.bool false) [] []))
     (∀ (n18 : Int),
      (n18 = gl) →
      ((0 : Int) ≤ n18 ∧ n18 ≤ (18446744073709551615 : Int)) →
      ((2 : Int) ≠ (0 : Int)) ∧
      ∀ (n21 : Int),
      (n21 = n18.tmod (2 : Int)) →
      ((0 : Int) ≤ n21 ∧ n21 ≤ (18446744073709551615 : Int)) →
      (k (AV.bool ((n21 == (1 : Int)) == gu)) [] []))) := by
  intro n1
  intro q1 -- n1 = gh
  intro ⟨l1, u1⟩ -- (-9223372036854775808 : Int) ≤ n1 ∧ n1 ≤ (9223372036854775807 : Int)
  intro n4
  intro q4 -- n4 = gh
  intro n6
  intro q6 -- n6 = gp
  intro n8
  intro q8 -- n8 = gp
  intro n10
  intro q10 -- n10 = gc
  intro n12
  intro q12 -- n12 = gc
  refine br_intro (fun c1 => ?_) (fun c1 => ?_) -- bif bif bif bif bif decide (n1 < (0 : Int)) then true else decide (n4 > (1048576 : Int)) then true else decide (n6 < (0 : Int)) then true else decide (n8 > (1048576 : Int)) then true else decide (n10 < (0 : Int)) then true else decide (n12 > (1073741824 : Int))
  · -- yes
    simp at c1 -- ((((n1 < (0 : Int) ∨ (1048576 : Int) < n4) ∨ n6 < (0 : Int)) ∨ (1048576 : Int) < n8) ∨ n10 < (0 : Int)) ∨ (1073741824 : Int) < n12
    -- k (AV.bool false) [] []
    exact hk false (by rw [gE_bad1 (gu := gu) (gl := gl) (by omega)]; decide)
  · -- no
    simp at c1 -- (((((0 : Int) ≤ n1 ∧ n4 ≤ (1048576 : Int)) ∧ (0 : Int) ≤ n6) ∧ n8 ≤ (1048576 : Int)) ∧ (0 : Int) ≤ n10) ∧ n12 ≤ (1073741824 : Int)
    intro n14
    intro q14 -- n14 = gh
    intro n16
    intro q16 -- n16 = gp
    refine br_intro (fun c2 => ?_) (fun c2 => ?_) -- bif bif !gu then n14 != (0 : Int) else false then true else bif gu then n16 != (0 : Int) else false
    · -- yes
      simp at c2 -- gu = false ∧ ¬n14 = (0 : Int) ∨ gu = true ∧ ¬n16 = (0 : Int)
      -- k (AV.bool false) [] []
      exact hk false (by rcases c2 with c | c
                         · rw [gE_bad3 c.1 (by omega)]; decide
                         · rw [gE_bad2 c.1 (by omega)]; decide)
    · -- no
      simp at c2 -- (gu = false → n14 = (0 : Int)) ∧ (gu = true → n16 = (0 : Int))
      intro n18
      intro q18 -- n18 = gl
      intro ⟨l18, u18⟩ -- (0 : Int) ≤ n18 ∧ n18 ≤ (18446744073709551615 : Int)
      refine ⟨by first | omega | (dsimp only; omega), ?_⟩ -- (2 : Int) ≠ (0 : Int)
      intro n21
      intro q21 -- n21 = n18.tmod (2 : Int)
      rw [Int.tmod_eq_emod_of_nonneg (by omega)] at q21
      intro ⟨l21, u21⟩ -- (0 : Int) ≤ n21 ∧ n21 ≤ (18446744073709551615 : Int)
      -- k (AV.bool ((n21 == (1 : Int)) == gu)) [] []
      exact hk _ (may_code (by omega) (fun h => by have := c2.2 h; omega) (fun h => by have := c2.1 h; omega) (by omega))

theorem may_ok : Holds Try.prog 21 mayS := by
  refine fn_sound (env := mkEnv T0) (tab_ok T0_ok) Try.func21 Try.call21 fun args k h => ?_
  match args, h with
  | [.agg [.bool gu, .int .i64 gh, .int .i64 gp, .int .i64 gc, .int .u64 gl]], h => exact ⟨by kernel_rfl, fun _ _ => none, fun _ _ => none, .cast (by kernel_rfl) (may_vc gu gh h.1.1 h.1.2 gp h.2.1.1 h.2.1.2 gc h.2.2.1.1 h.2.2.1.2 gl h.2.2.2.1.1 h.2.2.2.1.2 k h.2.2.2.2)⟩
set_option maxHeartbeats 2000000 in
theorem ones_vc (x : Int) (x0 : (0 : Int) ≤ x) (x1 : x ≤ (18446744073709551615 : Int)) (k : AV → List (Option Blk) → List Blk → Prop) (hk : ∀ (r : Int), r = cnt (64 : Nat) x → (0 : Int) ≤ r ∧ r ≤ (64 : Int) → k (AV.int IntKind.i64 r) [] []) :
  ((0 : Int) ≤ (1 : Int)) ∧
  ∀ (n1 : Int),
  (n1 = x.fdiv ((2 : Int) ^ min (Int.toNat (1 : Int)) IntKind.u64.bits)) →
  ((0 : Int) ≤ n1 ∧ n1 ≤ (18446744073709551615 : Int)) →
  ∀ (n4 : Int),
  (n4 = bits BinOp.and IntKind.u64 n1 (6148914691236517205 : Int)) →
  ((0 : Int) ≤ n4 ∧ n4 ≤ (18446744073709551615 : Int)) →
  ∀ (n7 : Int),
  (n7 = bits BinOp.and IntKind.u64 x (6148914691236517205 : Int)) →
  ((0 : Int) ≤ n7 ∧ n7 ≤ (18446744073709551615 : Int)) →
  ∀ (n10 : Int),
  (n10 = IntKind.u64.wrap (n4 + n7)) →
  ((0 : Int) ≤ n10 ∧ n10 ≤ (18446744073709551615 : Int)) →
  ((0 : Int) ≤ (2 : Int)) ∧
  ∀ (n13 : Int),
  (n13 = n10.fdiv ((2 : Int) ^ min (Int.toNat (2 : Int)) IntKind.u64.bits)) →
  ((0 : Int) ≤ n13 ∧ n13 ≤ (18446744073709551615 : Int)) →
  ∀ (n16 : Int),
  (n16 = bits BinOp.and IntKind.u64 n13 (3689348814741910323 : Int)) →
  ((0 : Int) ≤ n16 ∧ n16 ≤ (18446744073709551615 : Int)) →
  ∀ (n19 : Int),
  (n19 = bits BinOp.and IntKind.u64 n10 (3689348814741910323 : Int)) →
  ((0 : Int) ≤ n19 ∧ n19 ≤ (18446744073709551615 : Int)) →
  ∀ (n22 : Int),
  (n22 = IntKind.u64.wrap (n16 + n19)) →
  ((0 : Int) ≤ n22 ∧ n22 ≤ (18446744073709551615 : Int)) →
  ((0 : Int) ≤ (4 : Int)) ∧
  ∀ (n25 : Int),
  (n25 = n22.fdiv ((2 : Int) ^ min (Int.toNat (4 : Int)) IntKind.u64.bits)) →
  ((0 : Int) ≤ n25 ∧ n25 ≤ (18446744073709551615 : Int)) →
  ∀ (n28 : Int),
  (n28 = IntKind.u64.wrap (n25 + n22)) →
  ((0 : Int) ≤ n28 ∧ n28 ≤ (18446744073709551615 : Int)) →
  ∀ (n31 : Int),
  (n31 = bits BinOp.and IntKind.u64 n28 (1085102592571150095 : Int)) →
  ((0 : Int) ≤ n31 ∧ n31 ≤ (18446744073709551615 : Int)) →
  ((0 : Int) ≤ (8 : Int)) ∧
  ∀ (n34 : Int),
  (n34 = n31.fdiv ((2 : Int) ^ min (Int.toNat (8 : Int)) IntKind.u64.bits)) →
  ((0 : Int) ≤ n34 ∧ n34 ≤ (18446744073709551615 : Int)) →
  ∀ (n37 : Int),
  (n37 = IntKind.u64.wrap (n31 + n34)) →
  ((0 : Int) ≤ n37 ∧ n37 ≤ (18446744073709551615 : Int)) →
  ((0 : Int) ≤ (16 : Int)) ∧
  ∀ (n40 : Int),
  (n40 = n37.fdiv ((2 : Int) ^ min (Int.toNat (16 : Int)) IntKind.u64.bits)) →
  ((0 : Int) ≤ n40 ∧ n40 ≤ (18446744073709551615 : Int)) →
  ∀ (n43 : Int),
  (n43 = IntKind.u64.wrap (n37 + n40)) →
  ((0 : Int) ≤ n43 ∧ n43 ≤ (18446744073709551615 : Int)) →
  ((0 : Int) ≤ (32 : Int)) ∧
  ∀ (n46 : Int),
  (n46 = n43.fdiv ((2 : Int) ^ min (Int.toNat (32 : Int)) IntKind.u64.bits)) →
  ((0 : Int) ≤ n46 ∧ n46 ≤ (18446744073709551615 : Int)) →
  ∀ (n49 : Int),
  (n49 = IntKind.u64.wrap (n43 + n46)) →
  ((0 : Int) ≤ n49 ∧ n49 ≤ (18446744073709551615 : Int)) →
  ∀ (n52 : Int),
  (n52 = IntKind.i64.wrap n49) →
  ((-9223372036854775808 : Int) ≤ n52 ∧ n52 ≤ (9223372036854775807 : Int)) →
  ∀ (n55 : Int),
  (n55 = bits BinOp.and IntKind.i64 n52 (127 : Int)) →
  ((-9223372036854775808 : Int) ≤ n55 ∧ n55 ≤ (9223372036854775807 : Int)) →
  (k (AV.int IntKind.i64 n55) [] []) := by
  refine ⟨by first | omega | (dsimp only; omega), ?_⟩ -- (0 : Int) ≤ (1 : Int)
  intro n1
  intro q1 -- n1 = x.fdiv ((2 : Int) ^ min (Int.toNat (1 : Int)) IntKind.u64.bits)
  rw [show (2 : Int) ^ min (Int.toNat (1 : Int)) IntKind.u64.bits = 2 from rfl, Int.fdiv_eq_ediv_of_nonneg _ (by decide)] at q1
  intro ⟨l1, u1⟩ -- (0 : Int) ≤ n1 ∧ n1 ≤ (18446744073709551615 : Int)
  intro n4
  intro q4 -- n4 = bits BinOp.and IntKind.u64 n1 (6148914691236517205 : Int)
  intro ⟨l4, u4⟩ -- (0 : Int) ≤ n4 ∧ n4 ≤ (18446744073709551615 : Int)
  intro n7
  intro q7 -- n7 = bits BinOp.and IntKind.u64 x (6148914691236517205 : Int)
  intro ⟨l7, u7⟩ -- (0 : Int) ≤ n7 ∧ n7 ≤ (18446744073709551615 : Int)
  intro n10
  intro q10 -- n10 = IntKind.u64.wrap (n4 + n7)
  rw [IntKind.wrap_u64] at q10
  intro ⟨l10, u10⟩ -- (0 : Int) ≤ n10 ∧ n10 ≤ (18446744073709551615 : Int)
  refine ⟨by first | omega | (dsimp only; omega), ?_⟩ -- (0 : Int) ≤ (2 : Int)
  intro n13
  intro q13 -- n13 = n10.fdiv ((2 : Int) ^ min (Int.toNat (2 : Int)) IntKind.u64.bits)
  rw [show (2 : Int) ^ min (Int.toNat (2 : Int)) IntKind.u64.bits = 4 from rfl, Int.fdiv_eq_ediv_of_nonneg _ (by decide)] at q13
  intro ⟨l13, u13⟩ -- (0 : Int) ≤ n13 ∧ n13 ≤ (18446744073709551615 : Int)
  intro n16
  intro q16 -- n16 = bits BinOp.and IntKind.u64 n13 (3689348814741910323 : Int)
  intro ⟨l16, u16⟩ -- (0 : Int) ≤ n16 ∧ n16 ≤ (18446744073709551615 : Int)
  intro n19
  intro q19 -- n19 = bits BinOp.and IntKind.u64 n10 (3689348814741910323 : Int)
  intro ⟨l19, u19⟩ -- (0 : Int) ≤ n19 ∧ n19 ≤ (18446744073709551615 : Int)
  intro n22
  intro q22 -- n22 = IntKind.u64.wrap (n16 + n19)
  rw [IntKind.wrap_u64] at q22
  intro ⟨l22, u22⟩ -- (0 : Int) ≤ n22 ∧ n22 ≤ (18446744073709551615 : Int)
  refine ⟨by first | omega | (dsimp only; omega), ?_⟩ -- (0 : Int) ≤ (4 : Int)
  intro n25
  intro q25 -- n25 = n22.fdiv ((2 : Int) ^ min (Int.toNat (4 : Int)) IntKind.u64.bits)
  rw [show (2 : Int) ^ min (Int.toNat (4 : Int)) IntKind.u64.bits = 16 from rfl, Int.fdiv_eq_ediv_of_nonneg _ (by decide)] at q25
  intro ⟨l25, u25⟩ -- (0 : Int) ≤ n25 ∧ n25 ≤ (18446744073709551615 : Int)
  intro n28
  intro q28 -- n28 = IntKind.u64.wrap (n25 + n22)
  rw [IntKind.wrap_u64] at q28
  intro ⟨l28, u28⟩ -- (0 : Int) ≤ n28 ∧ n28 ≤ (18446744073709551615 : Int)
  intro n31
  intro q31 -- n31 = bits BinOp.and IntKind.u64 n28 (1085102592571150095 : Int)
  intro ⟨l31, u31⟩ -- (0 : Int) ≤ n31 ∧ n31 ≤ (18446744073709551615 : Int)
  have e31 : n31 ≤ 1085102592571150095 := by (rw [q31]; exact and_le n28 _ l28 u28 (by decide) (by decide))
  refine ⟨by first | omega | (dsimp only; omega), ?_⟩ -- (0 : Int) ≤ (8 : Int)
  intro n34
  intro q34 -- n34 = n31.fdiv ((2 : Int) ^ min (Int.toNat (8 : Int)) IntKind.u64.bits)
  rw [show (2 : Int) ^ min (Int.toNat (8 : Int)) IntKind.u64.bits = 256 from rfl, Int.fdiv_eq_ediv_of_nonneg _ (by decide)] at q34
  intro ⟨l34, u34⟩ -- (0 : Int) ≤ n34 ∧ n34 ≤ (18446744073709551615 : Int)
  have e34 : n34 ≤ 4238682002231055 := by (clear q1 q4 q7 q10 q13 q16 q19 q22 q25 q28 q31; omega)
  intro n37
  intro q37 -- n37 = IntKind.u64.wrap (n31 + n34)
  rw [IntKind.wrap_u64] at q37
  intro ⟨l37, u37⟩ -- (0 : Int) ≤ n37 ∧ n37 ≤ (18446744073709551615 : Int)
  have e37 : n37 ≤ 1089341274573381150 := by (rw [q37]; exact mod_le (Int.add_nonneg l31 l34) (Int.add_le_add e31 e34))
  refine ⟨by first | omega | (dsimp only; omega), ?_⟩ -- (0 : Int) ≤ (16 : Int)
  intro n40
  intro q40 -- n40 = n37.fdiv ((2 : Int) ^ min (Int.toNat (16 : Int)) IntKind.u64.bits)
  rw [show (2 : Int) ^ min (Int.toNat (16 : Int)) IntKind.u64.bits = 65536 from rfl, Int.fdiv_eq_ediv_of_nonneg _ (by decide)] at q40
  intro ⟨l40, u40⟩ -- (0 : Int) ≤ n40 ∧ n40 ≤ (18446744073709551615 : Int)
  have e40 : n40 ≤ 16622028725790 := by (clear q1 q4 q7 q10 q13 q16 q19 q22 q25 q28 q31; omega)
  intro n43
  intro q43 -- n43 = IntKind.u64.wrap (n37 + n40)
  rw [IntKind.wrap_u64] at q43
  intro ⟨l43, u43⟩ -- (0 : Int) ≤ n43 ∧ n43 ≤ (18446744073709551615 : Int)
  have e43 : n43 ≤ 1089357896602106940 := by (rw [q43]; exact mod_le (Int.add_nonneg l37 l40) (Int.add_le_add e37 e40))
  refine ⟨by first | omega | (dsimp only; omega), ?_⟩ -- (0 : Int) ≤ (32 : Int)
  intro n46
  intro q46 -- n46 = n43.fdiv ((2 : Int) ^ min (Int.toNat (32 : Int)) IntKind.u64.bits)
  rw [show (2 : Int) ^ min (Int.toNat (32 : Int)) IntKind.u64.bits = 4294967296 from rfl, Int.fdiv_eq_ediv_of_nonneg _ (by decide)] at q46
  intro ⟨l46, u46⟩ -- (0 : Int) ≤ n46 ∧ n46 ≤ (18446744073709551615 : Int)
  have e46 : n46 ≤ 253635900 := by (clear q1 q4 q7 q10 q13 q16 q19 q22 q25 q28 q31; omega)
  intro n49
  intro q49 -- n49 = IntKind.u64.wrap (n43 + n46)
  rw [IntKind.wrap_u64] at q49
  intro ⟨l49, u49⟩ -- (0 : Int) ≤ n49 ∧ n49 ≤ (18446744073709551615 : Int)
  have e49 : n49 ≤ 1089357896855742840 := by (rw [q49]; exact mod_le (Int.add_nonneg l43 l46) (Int.add_le_add e43 e46))
  intro n52
  intro q52 -- n52 = IntKind.i64.wrap n49
  rw [IntKind.wrap_i64] at q52
  intro ⟨l52, u52⟩ -- (-9223372036854775808 : Int) ≤ n52 ∧ n52 ≤ (9223372036854775807 : Int)
  have e52 : 0 ≤ n52 := by (clear q1 q4 q7 q10 q13 q16 q19 q22 q25 q28 q31 q34 q37 q40 q43 q46 q49; omega)
  intro n55
  intro q55 -- n55 = bits BinOp.and IntKind.i64 n52 (127 : Int)
  rw [and_i64 7 (by decide) 127 128 (by decide) (by decide) _ (by omega) (by omega)] at q55
  intro ⟨l55, u55⟩ -- (-9223372036854775808 : Int) ≤ n55 ∧ n55 ≤ (9223372036854775807 : Int)
  -- k (AV.int IntKind.i64 n55) [] []
  have e := ones_code x n1 n4 n7 n10 n13 n16 n19 n22 n25 n28 n31 n34 n37 n40 n43 n46 n49 n52 n55 (by assumption) (by assumption) q1 q4 q7 q10 q13 q16 q19 q22 q25 q28 q31 q34 q37 q40 q43 q46 q49 q52 q55
  have cb := cnt_bd 64 x (by assumption)
  rw [← e] at cb
  exact hk n55 e ⟨cb.1, by have := cb.2; simpa using this⟩

theorem ones_ok : Holds Try.prog 20 onesS := by
  refine fn_sound (env := mkEnv T0) (tab_ok T0_ok) Try.func20 Try.call20 fun args k h => ?_
  match args, h with
  | [.int .u64 x], h => exact ⟨by kernel_rfl, fun _ _ => none, fun _ _ => none, .cast (by kernel_rfl) (ones_vc x h.1.1 h.1.2 k h.2)⟩
theorem T3_ok : TabOk Try.prog T3 := ⟨check_ok, may_ok, ones_ok, fix_Of_ok, rOf_ok, fix_Div_ok, rDiv_ok, T1_ok⟩
end Go.Proofs.Ytaajleciicgoiaa

