import Derived.Test.YtdhdbdaceklkhaaWlB
namespace Go.Proofs.Ytdhdbdaceklkhaa
open Go Go.Eng Go.Fx Go.Proofs
set_option linter.unusedVariables false
set_option maxHeartbeats 2000000 in
theorem fix_stop_vc (a : Int) (a0 : (-9223372036854775808 : Int) ≤ a) (a1 : a ≤ (9223372036854775807 : Int)) (k : AV → List (Option Blk) → List Blk → Prop) (hk : ∀ (r : Int), r = stopI a → (-70368744177664 : Int) ≤ r ∧ r ≤ (70368744177664 : Int) → k (AV.int IntKind.i64 r) [] []) :
  ∀ (n1 : Int),
  (n1 = max a (-70368744177664 : Int)) →
  ((-9223372036854775808 : Int) ≤ n1 ∧ n1 ≤ (9223372036854775807 : Int)) →
  ∀ (n4 : Int),
  (n4 = min n1 (70368744177664 : Int)) →
  ((-9223372036854775808 : Int) ≤ n4 ∧ n4 ≤ (9223372036854775807 : Int)) →
  (k (AV.int IntKind.i64 n4) [] []) := by
  intro n1
  intro q1 -- n1 = max a (-70368744177664 : Int)
  intro ⟨l1, u1⟩ -- (-9223372036854775808 : Int) ≤ n1 ∧ n1 ≤ (9223372036854775807 : Int)
  intro n4
  intro q4 -- n4 = min n1 (70368744177664 : Int)
  intro ⟨l4, u4⟩ -- (-9223372036854775808 : Int) ≤ n4 ∧ n4 ≤ (9223372036854775807 : Int)
  exact by exact hk _ (by unfold stopI; omega) (by omega) -- k (AV.int IntKind.i64 n4) [] []

theorem fix_stop_ok : Holds Try.prog 19 (s1 stopI BD) := by
  refine fn_sound (env := mkEnv T0) (tab_ok T0_ok) Try.func19 Try.call19 fun args k h => ?_
  match args, h with
  | [.int .i64 a], h => exact ⟨by kernel_rfl, fun _ _ => none, fun _ _ => none, .cast (by kernel_rfl) (fix_stop_vc a h.1.1 h.1.2 k h.2)⟩
set_option maxHeartbeats 2000000 in
theorem stoplineref01_Stop_vc (a : Int) (a0 : (-9223372036854775808 : Int) ≤ a) (a1 : a ≤ (9223372036854775807 : Int)) (k : AV → List (Option Blk) → List Blk → Prop) (hk : ∀ (r : Int), r = stopI a → (-70368744177664 : Int) ≤ r ∧ r ≤ (70368744177664 : Int) → k (AV.int IntKind.i64 r) [] []) :
  br (decide (a > (70368744177664 : Int)))
   ((k (AV.int IntKind.i64 (70368744177664 : Int)) [] []))
   (br (decide (a < (-70368744177664 : Int)))
     ((k (AV.int IntKind.i64 (-70368744177664 : Int)) [] []))
     ((k (AV.int IntKind.i64 a) [] []))) := by
  refine brd (fun c1 => ?_) (fun c1 => ?_) -- decide (a > (70368744177664 : Int))
  · -- yes
    exact by exact hk _ (by unfold stopI; omega) (by omega) -- k (AV.int IntKind.i64 (70368744177664 : Int)) [] []
  · -- no
    refine brd (fun c2 => ?_) (fun c2 => ?_) -- decide (a < (-70368744177664 : Int))
    · -- yes
      exact by exact hk _ (by unfold stopI; omega) (by omega) -- k (AV.int IntKind.i64 (-70368744177664 : Int)) [] []
    · -- no
      exact by exact hk _ (by unfold stopI; omega) (by omega) -- k (AV.int IntKind.i64 a) [] []

theorem stoplineref01_Stop_ok : Holds Try.prog 20 (s1 stopI BD) := by
  refine fn_sound (env := mkEnv T0) (tab_ok T0_ok) Try.func20 Try.call20 fun args k h => ?_
  match args, h with
  | [.int .i64 a], h => exact ⟨by kernel_rfl, fun _ _ => none, fun _ _ => none, .cast (by kernel_rfl) (stoplineref01_Stop_vc a h.1.1 h.1.2 k h.2)⟩
set_option maxHeartbeats 2000000 in
theorem down_vc (a : Int) (a0 : (-9223372036854775808 : Int) ≤ a) (a1 : a ≤ (9223372036854775807 : Int)) (b : Int) (b0 : (-9223372036854775808 : Int) ≤ b) (b1 : b ≤ (9223372036854775807 : Int)) (hb : (0 : Int) < b) (k : AV → List (Option Blk) → List Blk → Prop) (hk : ∀ (r : Int), r = a / b → True → k (AV.int IntKind.i64 r) [] []) :
  (b ≠ (0 : Int)) ∧
  ∀ (n1 : Int),
  (n1 = IntKind.i64.wrap (a.tdiv b)) →
  ((-9223372036854775808 : Int) ≤ n1 ∧ n1 ≤ (9223372036854775807 : Int)) →
  (b ≠ (0 : Int)) ∧
  ∀ (n4 : Int),
  (n4 = a.tmod b) →
  ((-9223372036854775808 : Int) ≤ n4 ∧ n4 ≤ (9223372036854775807 : Int)) →
  br (bif n4 != (0 : Int) then decide (a < (0 : Int)) else false)
   (∀ (n7 : Int),
    (n7 = IntKind.i64.wrap (n1 - (1 : Int))) →
    ((-9223372036854775808 : Int) ≤ n7 ∧ n7 ≤ (9223372036854775807 : Int)) →
    (k (AV.int IntKind.i64 n7) [] []))
   ((k (AV.int IntKind.i64 n1) [] [])) := by
  refine ⟨by first | omega | (dsimp only; omega), ?_⟩ -- b ≠ (0 : Int)
  intro n1
  intro q1 -- n1 = IntKind.i64.wrap (a.tdiv b)
  rw [IntKind.wrap_i64] at q1
  intro ⟨l1, u1⟩ -- (-9223372036854775808 : Int) ≤ n1 ∧ n1 ≤ (9223372036854775807 : Int)
  refine ⟨by first | omega | (dsimp only; omega), ?_⟩ -- b ≠ (0 : Int)
  intro n4
  intro q4 -- n4 = a.tmod b
  intro ⟨l4, u4⟩ -- (-9223372036854775808 : Int) ≤ n4 ∧ n4 ≤ (9223372036854775807 : Int)
  refine br_intro (fun c1 => ?_) (fun c1 => ?_) -- bif n4 != (0 : Int) then decide (a < (0 : Int)) else false
  · -- yes
    simp at c1 -- ¬n4 = (0 : Int) ∧ a < (0 : Int)
    intro n7
    intro q7 -- n7 = IntKind.i64.wrap (n1 - (1 : Int))
    rw [IntKind.wrap_i64] at q7
    intro ⟨l7, u7⟩ -- (-9223372036854775808 : Int) ≤ n7 ∧ n7 ≤ (9223372036854775807 : Int)
    -- k (AV.int IntKind.i64 n7) [] []
    exact hk _ ((down_code a b n1 n4 n7 hb a0 a1 q1 q4).1 ⟨c1.1, c1.2⟩ q7) trivial
  · -- no
    simp at c1 -- ¬n4 = (0 : Int) → (0 : Int) ≤ a
    -- k (AV.int IntKind.i64 n1) [] []
    exact hk _ ((down_code a b n1 n4 0 hb a0 a1 q1 q4).2 c1) trivial

theorem down_ok : Holds Try.prog 21 downS := by
  refine fn_sound (env := mkEnv T0) (tab_ok T0_ok) Try.func21 Try.call21 fun args k h => ?_
  match args, h with
  | [.int .i64 a, .int .i64 b], h => exact ⟨by kernel_rfl, fun _ _ => none, fun _ _ => none, .cast (by kernel_rfl) (down_vc a h.1.1 h.1.2 b h.2.1.1 h.2.1.2 h.2.2.1 k h.2.2.2)⟩
theorem T1_ok : TabOk Try.prog T1 := ⟨fix_stop_ok, stoplineref01_Stop_ok, down_ok, trivial⟩
set_option maxHeartbeats 2000000 in
theorem fix_Of_vc (a : Int) (a0 : (-9223372036854775808 : Int) ≤ a) (a1 : a ≤ (9223372036854775807 : Int)) (k : AV → List (Option Blk) → List Blk → Prop) (hk : ∀ (r : Int), r = ofI a → (-70368744177664 : Int) ≤ r ∧ r ≤ (70368744177664 : Int) → k (AV.int IntKind.i64 r) [] []) :
  ∀ (n1 : Int),
  (n1 = max a (-1073741824 : Int)) →
  ((-9223372036854775808 : Int) ≤ n1 ∧ n1 ≤ (9223372036854775807 : Int)) →
  ∀ (n4 : Int),
  (n4 = min n1 (1073741824 : Int)) →
  ((-9223372036854775808 : Int) ≤ n4 ∧ n4 ≤ (9223372036854775807 : Int)) →
  ∀ (n7 : Int),
  (n7 = IntKind.i64.wrap (n4 * (65536 : Int))) →
  ((-9223372036854775808 : Int) ≤ n7 ∧ n7 ≤ (9223372036854775807 : Int)) →
  (k (AV.int IntKind.i64 n7) [] []) := by
  intro n1
  intro q1 -- n1 = max a (-1073741824 : Int)
  intro ⟨l1, u1⟩ -- (-9223372036854775808 : Int) ≤ n1 ∧ n1 ≤ (9223372036854775807 : Int)
  intro n4
  intro q4 -- n4 = min n1 (1073741824 : Int)
  intro ⟨l4, u4⟩ -- (-9223372036854775808 : Int) ≤ n4 ∧ n4 ≤ (9223372036854775807 : Int)
  intro n7
  intro q7 -- n7 = IntKind.i64.wrap (n4 * (65536 : Int))
  rw [IntKind.wrap_i64] at q7
  intro ⟨l7, u7⟩ -- (-9223372036854775808 : Int) ≤ n7 ∧ n7 ≤ (9223372036854775807 : Int)
  exact by exact hk _ (by unfold ofI; omega) (by omega) -- k (AV.int IntKind.i64 n7) [] []

theorem fix_Of_ok : Holds Try.prog 16 (s1 ofI BD) := by
  refine fn_sound (env := mkEnv T1) (tab_ok T1_ok) Try.func16 Try.call16 fun args k h => ?_
  match args, h with
  | [.int .i64 a], h => exact ⟨by kernel_rfl, fun _ _ => none, fun _ _ => none, .cast (by kernel_rfl) (fix_Of_vc a h.1.1 h.1.2 k h.2)⟩
set_option maxHeartbeats 2000000 in
theorem rOf_vc (a : Int) (a0 : (-9223372036854775808 : Int) ≤ a) (a1 : a ≤ (9223372036854775807 : Int)) (k : AV → List (Option Blk) → List Blk → Prop) (hk : ∀ (r : Int), r = ofI a → (-70368744177664 : Int) ≤ r ∧ r ≤ (70368744177664 : Int) → k (AV.int IntKind.i64 r) [] []) :
  br (decide (a > (1073741824 : Int)))
   ((k (AV.int IntKind.i64 (70368744177664 : Int)) [] []))
   (br (decide (a < (-1073741824 : Int)))
     ((k (AV.int IntKind.i64 (-70368744177664 : Int)) [] []))
     (∀ (n1 : Int),
      (n1 = IntKind.i64.wrap (a * (65536 : Int))) →
      ((-9223372036854775808 : Int) ≤ n1 ∧ n1 ≤ (9223372036854775807 : Int)) →
      (k (AV.int IntKind.i64 n1) [] []))) := by
  refine brd (fun c1 => ?_) (fun c1 => ?_) -- decide (a > (1073741824 : Int))
  · -- yes
    exact by exact hk _ (by unfold ofI; omega) (by omega) -- k (AV.int IntKind.i64 (70368744177664 : Int)) [] []
  · -- no
    refine brd (fun c2 => ?_) (fun c2 => ?_) -- decide (a < (-1073741824 : Int))
    · -- yes
      exact by exact hk _ (by unfold ofI; omega) (by omega) -- k (AV.int IntKind.i64 (-70368744177664 : Int)) [] []
    · -- no
      intro n1
      intro q1 -- n1 = IntKind.i64.wrap (a * (65536 : Int))
      rw [IntKind.wrap_i64] at q1
      intro ⟨l1, u1⟩ -- (-9223372036854775808 : Int) ≤ n1 ∧ n1 ≤ (9223372036854775807 : Int)
      exact by exact hk _ (by unfold ofI; omega) (by omega) -- k (AV.int IntKind.i64 n1) [] []

theorem rOf_ok : Holds Try.prog 18 (s1 ofI BD) := by
  refine fn_sound (env := mkEnv T1) (tab_ok T1_ok) Try.func18 Try.call18 fun args k h => ?_
  match args, h with
  | [.int .i64 a], h => exact ⟨by kernel_rfl, fun _ _ => none, fun _ _ => none, .cast (by kernel_rfl) (rOf_vc a h.1.1 h.1.2 k h.2)⟩
set_option maxHeartbeats 2000000 in
theorem fix_Div_vc (a : Int) (a0 : (-9223372036854775808 : Int) ≤ a) (a1 : a ≤ (9223372036854775807 : Int)) (b : Int) (b0 : (-9223372036854775808 : Int) ≤ b) (b1 : b ≤ (9223372036854775807 : Int)) (k : AV → List (Option Blk) → List Blk → Prop) (hk : ∀ (q e : Int), q = divQ a b → e = divE b → (-70368744177664 : Int) ≤ q ∧ q ≤ (70368744177664 : Int) → e = (0 : Int) ∨ e = (10 : Int) → k (AV.tup [AV.int IntKind.i64 q, AV.int IntKind.i64 e]) [] []) :
  (
   ((-9223372036854775808 : Int) ≤ a) ∧
   (a ≤ (9223372036854775807 : Int))) ∧
  ∀ (r_1 : Int),
  (r_1 = stopI a) →
  ((-70368744177664 : Int) ≤ r_1 ∧ r_1 ≤ (70368744177664 : Int)) →
  (
   ((-9223372036854775808 : Int) ≤ b) ∧
   (b ≤ (9223372036854775807 : Int))) ∧
  ∀ (r_4 : Int),
  (r_4 = stopI b) →
  ((-70368744177664 : Int) ≤ r_4 ∧ r_4 ≤ (70368744177664 : Int)) →
  br (r_4 == (0 : Int))
   ((k (AV.tup [AV.int IntKind.i64 (0 : Int), AV.int IntKind.i64 (10 : Int)]) [] []))
   (∀ (n7 : Int),
    (n7 = IntKind.i64.wrap (r_1 * (65536 : Int))) →
    ((-9223372036854775808 : Int) ≤ n7 ∧ n7 ≤ (9223372036854775807 : Int)) →
    (r_4 ≠ (0 : Int)) ∧
    ∀ (n10 : Int),
    (n10 = IntKind.i64.wrap (n7.tdiv r_4)) →
    ((-9223372036854775808 : Int) ≤ n10 ∧ n10 ≤ (9223372036854775807 : Int)) →
    (r_4 ≠ (0 : Int)) ∧
    ∀ (n13 : Int),
    (n13 = n7.tmod r_4) →
    ((-9223372036854775808 : Int) ≤ n13 ∧ n13 ≤ (9223372036854775807 : Int)) →
    br (bif n13 != (0 : Int) then !decide (n7 < (0 : Int)) == decide (r_4 < (0 : Int)) else false)
     (∀ (n16 : Int),
      (n16 = IntKind.i64.wrap (n10 - (1 : Int))) →
      ((-9223372036854775808 : Int) ≤ n16 ∧ n16 ≤ (9223372036854775807 : Int)) →
      (
       ((-9223372036854775808 : Int) ≤ n16) ∧
       (n16 ≤ (9223372036854775807 : Int))) ∧
      ∀ (r_19 : Int),
      (r_19 = stopI n16) →
      ((-70368744177664 : Int) ≤ r_19 ∧ r_19 ≤ (70368744177664 : Int)) →
      (k (AV.tup [AV.int IntKind.i64 r_19, AV.int IntKind.i64 (0 : Int)]) [] []))
     ((
       ((-9223372036854775808 : Int) ≤ n10) ∧
       (n10 ≤ (9223372036854775807 : Int))) ∧
      ∀ (r_22 : Int),
      (r_22 = stopI n10) →
      ((-70368744177664 : Int) ≤ r_22 ∧ r_22 ≤ (70368744177664 : Int)) →
      (k (AV.tup [AV.int IntKind.i64 r_22, AV.int IntKind.i64 (0 : Int)]) [] []))) := by
  refine ⟨by exact ⟨by assumption, by assumption⟩, ?_⟩ -- (-9223372036854775808 : Int) ≤ a ∧ a ≤ (9223372036854775807 : Int)
  intro r_1
  intro h1 -- r_1 = stopI a
  intro ⟨a2, b2⟩ -- (-70368744177664 : Int) ≤ r_1 ∧ r_1 ≤ (70368744177664 : Int)
  refine ⟨by exact ⟨by assumption, by assumption⟩, ?_⟩ -- (-9223372036854775808 : Int) ≤ b ∧ b ≤ (9223372036854775807 : Int)
  intro r_4
  intro h3 -- r_4 = stopI b
  intro ⟨a4, b4⟩ -- (-70368744177664 : Int) ≤ r_4 ∧ r_4 ≤ (70368744177664 : Int)
  refine br_intro (fun c5 => ?_) (fun c5 => ?_) -- r_4 == (0 : Int)
  · -- yes
    simp at c5 -- r_4 = (0 : Int)
    -- k (AV.tup [AV.int IntKind.i64 (0 : Int), AV.int IntKind.i64 (10 : Int)]) [] []
    exact hk _ _ (by unfold divQ; rw [← h3, if_pos c5]) (by unfold divE; rw [← h3, if_pos c5]) (by omega) (by omega)
  · -- no
    simp at c5 -- ¬r_4 = (0 : Int)
    intro n7
    intro q7 -- n7 = IntKind.i64.wrap (r_1 * (65536 : Int))
    rw [IntKind.wrap_i64] at q7
    intro ⟨l7, u7⟩ -- (-9223372036854775808 : Int) ≤ n7 ∧ n7 ≤ (9223372036854775807 : Int)
    refine ⟨by assumption, ?_⟩ -- r_4 ≠ (0 : Int)
    intro n10
    intro q10 -- n10 = IntKind.i64.wrap (n7.tdiv r_4)
    rw [IntKind.wrap_i64] at q10
    intro ⟨l10, u10⟩ -- (-9223372036854775808 : Int) ≤ n10 ∧ n10 ≤ (9223372036854775807 : Int)
    refine ⟨by assumption, ?_⟩ -- r_4 ≠ (0 : Int)
    intro n13
    intro q13 -- n13 = n7.tmod r_4
    intro ⟨l13, u13⟩ -- (-9223372036854775808 : Int) ≤ n13 ∧ n13 ≤ (9223372036854775807 : Int)
    refine br_intro (fun c6 => ?_) (fun c6 => ?_) -- bif n13 != (0 : Int) then !decide (n7 < (0 : Int)) == decide (r_4 < (0 : Int)) else false
    · -- yes
      simp at c6 -- ¬n13 = (0 : Int) ∧ ¬(n7 < (0 : Int) ↔ r_4 < (0 : Int))
      intro n16
      intro q16 -- n16 = IntKind.i64.wrap (n10 - (1 : Int))
      rw [IntKind.wrap_i64] at q16
      intro ⟨l16, u16⟩ -- (-9223372036854775808 : Int) ≤ n16 ∧ n16 ≤ (9223372036854775807 : Int)
      refine ⟨by exact ⟨by assumption, by assumption⟩, ?_⟩ -- (-9223372036854775808 : Int) ≤ n16 ∧ n16 ≤ (9223372036854775807 : Int)
      intro r_19
      intro h7 -- r_19 = stopI n16
      intro ⟨a8, b8⟩ -- (-70368744177664 : Int) ≤ r_19 ∧ r_19 ≤ (70368744177664 : Int)
      -- k (AV.tup [AV.int IntKind.i64 r_19, AV.int IntKind.i64 (0 : Int)]) [] []
      have e := (div_code r_1 r_4 n7 n10 n13 ⟨a2, b2⟩ c5 q7 q10 q13).1 c6 n16 q16
      exact hk _ _ (by unfold divQ; rw [← h3, if_neg c5, ← h1, ← e]; exact h7) (by unfold divE; rw [← h3, if_neg c5]) ⟨a8, b8⟩ (by omega)
    · -- no
      simp at c6 -- ¬n13 = (0 : Int) → (n7 < (0 : Int) ↔ r_4 < (0 : Int))
      refine ⟨by exact ⟨by assumption, by assumption⟩, ?_⟩ -- (-9223372036854775808 : Int) ≤ n10 ∧ n10 ≤ (9223372036854775807 : Int)
      intro r_22
      intro h9 -- r_22 = stopI n10
      intro ⟨a10, b10⟩ -- (-70368744177664 : Int) ≤ r_22 ∧ r_22 ≤ (70368744177664 : Int)
      -- k (AV.tup [AV.int IntKind.i64 r_22, AV.int IntKind.i64 (0 : Int)]) [] []
      have e := (div_code r_1 r_4 n7 n10 n13 ⟨a2, b2⟩ c5 q7 q10 q13).2 c6
      exact hk _ _ (by unfold divQ; rw [← h3, if_neg c5, ← h1, ← e]; exact h9) (by unfold divE; rw [← h3, if_neg c5]) ⟨a10, b10⟩ (by omega)

theorem fix_Div_ok : Holds Try.prog 15 divS := by
  refine fn_sound (env := mkEnv T1) (tab_ok T1_ok) Try.func15 Try.call15 fun args k h => ?_
  match args, h with
  | [.int .i64 a, .int .i64 b], h => exact ⟨by kernel_rfl, fun _ _ => none, fun _ _ => none, .cast (by kernel_rfl) (fix_Div_vc a h.1.1 h.1.2 b h.2.1.1 h.2.1.2 k h.2.2)⟩
set_option maxHeartbeats 2000000 in
theorem rDiv_vc (a : Int) (a0 : (-9223372036854775808 : Int) ≤ a) (a1 : a ≤ (9223372036854775807 : Int)) (b : Int) (b0 : (-9223372036854775808 : Int) ≤ b) (b1 : b ≤ (9223372036854775807 : Int)) (k : AV → List (Option Blk) → List Blk → Prop) (hk : ∀ (q e : Int), q = divQ a b → e = divE b → (-70368744177664 : Int) ≤ q ∧ q ≤ (70368744177664 : Int) → e = (0 : Int) ∨ e = (10 : Int) → k (AV.tup [AV.int IntKind.i64 q, AV.int IntKind.i64 e]) [] []) :
  (
   ((-9223372036854775808 : Int) ≤ a) ∧
   (a ≤ (9223372036854775807 : Int))) ∧
  ∀ (r_1 : Int),
  (r_1 = stopI a) →
  ((-70368744177664 : Int) ≤ r_1 ∧ r_1 ≤ (70368744177664 : Int)) →
  (
   ((-9223372036854775808 : Int) ≤ b) ∧
   (b ≤ (9223372036854775807 : Int))) ∧
  ∀ (r_4 : Int),
  (r_4 = stopI b) →
  ((-70368744177664 : Int) ≤ r_4 ∧ r_4 ≤ (70368744177664 : Int)) →
  br (r_4 == (0 : Int))
   ((k (AV.tup [AV.int IntKind.i64 (0 : Int), AV.int IntKind.i64 (10 : Int)]) [] []))
   (br (decide (r_4 < (0 : Int)))
     (∀ (n7 : Int),
      (n7 = IntKind.i64.wrap ((0 : Int) - r_1)) →
      ((-9223372036854775808 : Int) ≤ n7 ∧ n7 ≤ (9223372036854775807 : Int)) →
      ∀ (n10 : Int),
      (n10 = IntKind.i64.wrap ((0 : Int) - r_4)) →
      ((-9223372036854775808 : Int) ≤ n10 ∧ n10 ≤ (9223372036854775807 : Int)) →
      ∀ (n13 : Int),
      (n13 = IntKind.i64.wrap (n7 * (65536 : Int))) →
      ((-9223372036854775808 : Int) ≤ n13 ∧ n13 ≤ (9223372036854775807 : Int)) →
      (
       ((-9223372036854775808 : Int) ≤ n13) ∧
       (n13 ≤ (9223372036854775807 : Int))) ∧
      (
       ((-9223372036854775808 : Int) ≤ n10) ∧
       (n10 ≤ (9223372036854775807 : Int))) ∧
      ((0 : Int) < n10) ∧
      ∀ (r_16 : Int),
      (r_16 = n13 / n10) →
      (True) →
      (
       ((-9223372036854775808 : Int) ≤ r_16) ∧
       (r_16 ≤ (9223372036854775807 : Int))) ∧
      ∀ (r_19 : Int),
      (r_19 = stopI r_16) →
      ((-70368744177664 : Int) ≤ r_19 ∧ r_19 ≤ (70368744177664 : Int)) →
      (k (AV.tup [AV.int IntKind.i64 r_19, AV.int IntKind.i64 (0 : Int)]) [] []))
     (∀ (n22 : Int),
      (n22 = IntKind.i64.wrap (r_1 * (65536 : Int))) →
      ((-9223372036854775808 : Int) ≤ n22 ∧ n22 ≤ (9223372036854775807 : Int)) →
      (
       ((-9223372036854775808 : Int) ≤ n22) ∧
       (n22 ≤ (9223372036854775807 : Int))) ∧
      (
       ((-9223372036854775808 : Int) ≤ r_4) ∧
       (r_4 ≤ (9223372036854775807 : Int))) ∧
      ((0 : Int) < r_4) ∧
      ∀ (r_25 : Int),
      (r_25 = n22 / r_4) →
      (True) →
      (
       ((-9223372036854775808 : Int) ≤ r_25) ∧
       (r_25 ≤ (9223372036854775807 : Int))) ∧
      ∀ (r_28 : Int),
      (r_28 = stopI r_25) →
      ((-70368744177664 : Int) ≤ r_28 ∧ r_28 ≤ (70368744177664 : Int)) →
      (k (AV.tup [AV.int IntKind.i64 r_28, AV.int IntKind.i64 (0 : Int)]) [] []))) := by
  refine ⟨by exact ⟨by assumption, by assumption⟩, ?_⟩ -- (-9223372036854775808 : Int) ≤ a ∧ a ≤ (9223372036854775807 : Int)
  intro r_1
  intro h1 -- r_1 = stopI a
  intro ⟨a2, b2⟩ -- (-70368744177664 : Int) ≤ r_1 ∧ r_1 ≤ (70368744177664 : Int)
  refine ⟨by exact ⟨by assumption, by assumption⟩, ?_⟩ -- (-9223372036854775808 : Int) ≤ b ∧ b ≤ (9223372036854775807 : Int)
  intro r_4
  intro h3 -- r_4 = stopI b
  intro ⟨a4, b4⟩ -- (-70368744177664 : Int) ≤ r_4 ∧ r_4 ≤ (70368744177664 : Int)
  refine br_intro (fun c5 => ?_) (fun c5 => ?_) -- r_4 == (0 : Int)
  · -- yes
    simp at c5 -- r_4 = (0 : Int)
    -- k (AV.tup [AV.int IntKind.i64 (0 : Int), AV.int IntKind.i64 (10 : Int)]) [] []
    exact hk _ _ (by unfold divQ; rw [← h3, if_pos c5]) (by unfold divE; rw [← h3, if_pos c5]) (by omega) (by omega)
  · -- no
    simp at c5 -- ¬r_4 = (0 : Int)
    refine brd (fun c6 => ?_) (fun c6 => ?_) -- decide (r_4 < (0 : Int))
    · -- yes
      intro n7
      intro q7 -- n7 = IntKind.i64.wrap ((0 : Int) - r_1)
      rw [IntKind.wrap_i64] at q7
      intro ⟨l7, u7⟩ -- (-9223372036854775808 : Int) ≤ n7 ∧ n7 ≤ (9223372036854775807 : Int)
      intro n10
      intro q10 -- n10 = IntKind.i64.wrap ((0 : Int) - r_4)
      rw [IntKind.wrap_i64] at q10
      intro ⟨l10, u10⟩ -- (-9223372036854775808 : Int) ≤ n10 ∧ n10 ≤ (9223372036854775807 : Int)
      intro n13
      intro q13 -- n13 = IntKind.i64.wrap (n7 * (65536 : Int))
      rw [IntKind.wrap_i64] at q13
      intro ⟨l13, u13⟩ -- (-9223372036854775808 : Int) ≤ n13 ∧ n13 ≤ (9223372036854775807 : Int)
      refine ⟨by exact ⟨by assumption, by assumption⟩, ?_⟩ -- (-9223372036854775808 : Int) ≤ n13 ∧ n13 ≤ (9223372036854775807 : Int)
      refine ⟨by exact ⟨by assumption, by assumption⟩, ?_⟩ -- (-9223372036854775808 : Int) ≤ n10 ∧ n10 ≤ (9223372036854775807 : Int)
      refine ⟨by first | omega | (dsimp only; omega), ?_⟩ -- (0 : Int) < n10
      intro r_16
      intro h7 -- r_16 = n13 / n10
      have e7 : -4611686018427387904 ≤ r_16 ∧ r_16 ≤ 4611686018427387904 := by (rw [h7]; exact ediv_bd n13 n10 4611686018427387904 (by omega) (by omega) (by omega) (by omega))
      intro h8 -- True
      refine ⟨by first | omega | (dsimp only; omega), ?_⟩ -- (-9223372036854775808 : Int) ≤ r_16 ∧ r_16 ≤ (9223372036854775807 : Int)
      intro r_19
      intro h9 -- r_19 = stopI r_16
      intro ⟨a10, b10⟩ -- (-70368744177664 : Int) ≤ r_19 ∧ r_19 ≤ (70368744177664 : Int)
      -- k (AV.tup [AV.int IntKind.i64 r_19, AV.int IntKind.i64 (0 : Int)]) [] []
      exact hk _ _ (by unfold divQ; rw [← h3, if_neg c5, ← h1, h9, h7, ← Int.neg_fdiv_neg, Int.fdiv_eq_ediv_of_nonneg _ (by omega)]; congr 2 <;> omega) (by unfold divE; rw [← h3, if_neg c5]) ⟨a10, b10⟩ (by omega)
    · -- no
      intro n22
      intro q22 -- n22 = IntKind.i64.wrap (r_1 * (65536 : Int))
      rw [IntKind.wrap_i64] at q22
      intro ⟨l22, u22⟩ -- (-9223372036854775808 : Int) ≤ n22 ∧ n22 ≤ (9223372036854775807 : Int)
      refine ⟨by exact ⟨by assumption, by assumption⟩, ?_⟩ -- (-9223372036854775808 : Int) ≤ n22 ∧ n22 ≤ (9223372036854775807 : Int)
      refine ⟨by first | omega | (dsimp only; omega), ?_⟩ -- (-9223372036854775808 : Int) ≤ r_4 ∧ r_4 ≤ (9223372036854775807 : Int)
      refine ⟨by first | omega | (dsimp only; omega), ?_⟩ -- (0 : Int) < r_4
      intro r_25
      intro h11 -- r_25 = n22 / r_4
      have e11 : -4611686018427387904 ≤ r_25 ∧ r_25 ≤ 4611686018427387904 := by (rw [h11]; exact ediv_bd n22 r_4 4611686018427387904 (by omega) (by omega) (by omega) (by omega))
      intro h12 -- True
      refine ⟨by first | omega | (dsimp only; omega), ?_⟩ -- (-9223372036854775808 : Int) ≤ r_25 ∧ r_25 ≤ (9223372036854775807 : Int)
      intro r_28
      intro h13 -- r_28 = stopI r_25
      intro ⟨a14, b14⟩ -- (-70368744177664 : Int) ≤ r_28 ∧ r_28 ≤ (70368744177664 : Int)
      -- k (AV.tup [AV.int IntKind.i64 r_28, AV.int IntKind.i64 (0 : Int)]) [] []
      exact hk _ _ (by unfold divQ; rw [← h3, if_neg c5, ← h1, h13, h11, Int.fdiv_eq_ediv_of_nonneg _ (by omega)]; congr 2; omega) (by unfold divE; rw [← h3, if_neg c5]) ⟨a14, b14⟩ (by omega)

theorem rDiv_ok : Holds Try.prog 17 divS := by
  refine fn_sound (env := mkEnv T1) (tab_ok T1_ok) Try.func17 Try.call17 fun args k h => ?_
  match args, h with
  | [.int .i64 a, .int .i64 b], h => exact ⟨by kernel_rfl, fun _ _ => none, fun _ _ => none, .cast (by kernel_rfl) (rDiv_vc a h.1.1 h.1.2 b h.2.1.1 h.2.1.2 k h.2.2)⟩
theorem T3_ok : TabOk Try.prog T3 := ⟨fix_Of_ok, rOf_ok, fix_Div_ok, rDiv_ok, T1_ok⟩
set_option maxHeartbeats 2000000 in
theorem next_vc (b : Int) (b0 : (0 : Int) ≤ b) (b1 : b ≤ (18446744073709551615 : Int)) (up : Bool) (k : AV → List (Option Blk) → List Blk → Prop) (hk : ∀ (r : Int), r = wN b up → (0 : Int) ≤ r ∧ r ≤ (18446744073709551615 : Int) → k (AV.agg [AV.int IntKind.u64 r]) [] []) :
  ∀ (n1 : Int),
  (n1 = b) →
  ((0 : Int) ≤ n1 ∧ n1 ≤ (18446744073709551615 : Int)) →
  ((0 : Int) ≤ (1 : Int)) ∧
  ∀ (n4 : Int),
  (n4 = IntKind.u64.wrap (n1 * (2 : Int) ^ min (Int.toNat (1 : Int)) IntKind.u64.bits)) →
  ((0 : Int) ≤ n4 ∧ n4 ≤ (18446744073709551615 : Int)) →
  br (up)
   (∀ (n7 : Int),
    (n7 = n4) →
    ((0 : Int) ≤ n7 ∧ n7 ≤ (18446744073709551615 : Int)) →
    ∀ (n10 : Int),
    (n10 = bits BinOp.or IntKind.u64 n7 (1 : Int)) →
    ((0 : Int) ≤ n10 ∧ n10 ≤ (18446744073709551615 : Int)) →
    (k (AV.agg [AV.int IntKind.u64 n10]) [] []))
   ((k (AV.agg [AV.int IntKind.u64 n4]) [] [])) := by
  intro n1
  intro q1 -- n1 = b
  intro ⟨l1, u1⟩ -- (0 : Int) ≤ n1 ∧ n1 ≤ (18446744073709551615 : Int)
  refine ⟨by first | omega | (dsimp only; omega), ?_⟩ -- (0 : Int) ≤ (1 : Int)
  intro n4
  intro q4 -- n4 = IntKind.u64.wrap (n1 * (2 : Int) ^ min (Int.toNat (1 : Int)) IntKind.u64.bits)
  rw [show (2 : Int) ^ min (Int.toNat (1 : Int)) IntKind.u64.bits = 2 from rfl] at q4
  rw [IntKind.wrap_u64] at q4
  intro ⟨l4, u4⟩ -- (0 : Int) ≤ n4 ∧ n4 ≤ (18446744073709551615 : Int)
  refine br_intro (fun c1 => ?_) (fun c1 => ?_) -- up
  · -- yes
    intro n7
    intro q7 -- n7 = n4
    intro ⟨l7, u7⟩ -- (0 : Int) ≤ n7 ∧ n7 ≤ (18446744073709551615 : Int)
    intro n10
    intro q10 -- n10 = bits BinOp.or IntKind.u64 n7 (1 : Int)
    intro ⟨l10, u10⟩ -- (0 : Int) ≤ n10 ∧ n10 ≤ (18446744073709551615 : Int)
    -- k (AV.agg [AV.int IntKind.u64 n10]) [] []
    exact hk _ (by unfold wN; rw [if_pos c1]; have o := or_one n7 l7 u7 (by omega); rw [← q10] at o; omega) ⟨l10, u10⟩
  · -- no
    -- k (AV.agg [AV.int IntKind.u64 n4]) [] []
    have c : ¬ up = true := by simpa using c1
    exact hk _ (by unfold wN; rw [if_neg c]; omega) ⟨l4, u4⟩

theorem next_ok : Holds Try.prog 13 nextS := by
  refine fn_sound (env := mkEnv T0) (tab_ok T0_ok) Try.func13 Try.call13 fun args k h => ?_
  match args, h with
  | [.agg [.int .u64 b], .bool up], h => exact ⟨by kernel_rfl, fun _ _ => none, fun _ _ => none, .cast (by kernel_rfl) (next_vc b h.1.1 h.1.2 up k h.2)⟩
set_option maxHeartbeats 2000000 in
theorem rnext_vc (b : Int) (b0 : (0 : Int) ≤ b) (b1 : b ≤ (18446744073709551615 : Int)) (up : Bool) (k : AV → List (Option Blk) → List Blk → Prop) (hk : ∀ (r : Int), r = wN b up → (0 : Int) ≤ r ∧ r ≤ (18446744073709551615 : Int) → k (AV.agg [AV.int IntKind.u64 r]) [] []) :
  ∀ (n1 : Int),
  (n1 = b) →
  ((0 : Int) ≤ n1 ∧ n1 ≤ (18446744073709551615 : Int)) →
  ∀ (n4 : Int),
  (n4 = IntKind.u64.wrap (n1 * (2 : Int))) →
  ((0 : Int) ≤ n4 ∧ n4 ≤ (18446744073709551615 : Int)) →
  br (up)
   (∀ (n7 : Int),
    (n7 = n4) →
    ((0 : Int) ≤ n7 ∧ n7 ≤ (18446744073709551615 : Int)) →
    ∀ (n10 : Int),
    (n10 = IntKind.u64.wrap (n7 + (1 : Int))) →
    ((0 : Int) ≤ n10 ∧ n10 ≤ (18446744073709551615 : Int)) →
    (k (AV.agg [AV.int IntKind.u64 n10]) [] []))
   ((k (AV.agg [AV.int IntKind.u64 n4]) [] [])) := by
  intro n1
  intro q1 -- n1 = b
  intro ⟨l1, u1⟩ -- (0 : Int) ≤ n1 ∧ n1 ≤ (18446744073709551615 : Int)
  intro n4
  intro q4 -- n4 = IntKind.u64.wrap (n1 * (2 : Int))
  rw [IntKind.wrap_u64] at q4
  intro ⟨l4, u4⟩ -- (0 : Int) ≤ n4 ∧ n4 ≤ (18446744073709551615 : Int)
  refine br_intro (fun c1 => ?_) (fun c1 => ?_) -- up
  · -- yes
    intro n7
    intro q7 -- n7 = n4
    intro ⟨l7, u7⟩ -- (0 : Int) ≤ n7 ∧ n7 ≤ (18446744073709551615 : Int)
    intro n10
    intro q10 -- n10 = IntKind.u64.wrap (n7 + (1 : Int))
    rw [IntKind.wrap_u64] at q10
    intro ⟨l10, u10⟩ -- (0 : Int) ≤ n10 ∧ n10 ≤ (18446744073709551615 : Int)
    -- k (AV.agg [AV.int IntKind.u64 n10]) [] []
    exact hk _ (by unfold wN; rw [if_pos c1]; omega) ⟨l10, u10⟩
  · -- no
    -- k (AV.agg [AV.int IntKind.u64 n4]) [] []
    have c : ¬ up = true := by simpa using c1
    exact hk _ (by unfold wN; rw [if_neg c]; omega) ⟨l4, u4⟩

theorem rnext_ok : Holds Try.prog 14 nextS := by
  refine fn_sound (env := mkEnv T0) (tab_ok T0_ok) Try.func14 Try.call14 fun args k h => ?_
  match args, h with
  | [.agg [.int .u64 b], .bool up], h => exact ⟨by kernel_rfl, fun _ _ => none, fun _ _ => none, .cast (by kernel_rfl) (rnext_vc b h.1.1 h.1.2 up k h.2)⟩
set_option maxHeartbeats 2000000 in
theorem share_vc (b : Int) (b0 : (0 : Int) ≤ b) (b1 : b ≤ (18446744073709551615 : Int)) (w : Int) (w0 : (-9223372036854775808 : Int) ≤ w) (w1 : w ≤ (9223372036854775807 : Int)) (k : AV → List (Option Blk) → List Blk → Prop) (hk : ∀ (v e : Int), v = wS b w → e = wE w → (0 : Int) ≤ v ∧ v ≤ (65536 : Int) → e = (0 : Int) ∨ e = (2 : Int) → k (AV.tup [AV.int IntKind.i64 v, AV.int IntKind.i64 e]) [] []) :
  br (bif decide (w < (1 : Int)) then true else decide (w > (64 : Int)))
   ((k (AV.tup [AV.int IntKind.i64 (0 : Int), AV.int IntKind.i64 (2 : Int)]) [] []))
   (∀ (n1 : Int),
    (n1 = b) →
    ((0 : Int) ≤ n1 ∧ n1 ≤ (18446744073709551615 : Int)) →
    ∀ (n4 : Int),
    (n4 = IntKind.i64.wrap ((64 : Int) - w)) →
    ((-9223372036854775808 : Int) ≤ n4 ∧ n4 ≤ (9223372036854775807 : Int)) →
    ((0 : Int) ≤ n4) ∧
    ∀ (n7 : Int),
    (n7 = IntKind.u64.wrap (n1 * (2 : Int) ^ min n4.toNat IntKind.u64.bits)) →
    ((0 : Int) ≤ n7 ∧ n7 ≤ (18446744073709551615 : Int)) →
    (
     ∃ (v : Int × Int),
     (w = w) ∧
     ((0 : Int) = v.fst) ∧
     (n7 = v.snd) ∧
     (
      ((0 : Int) ≤ v.fst) ∧
      (v.fst ≤ (64 : Int))) ∧
     (
      ((0 : Int) ≤ v.snd) ∧
      (v.snd ≤ (18446744073709551615 : Int))) ∧
     (v.fst + cnt (64 : Nat) v.snd = cnt w.toNat b)) ∧
    ∀ (v_10 : Int × Int),
    (((0 : Int) ≤ v_10.fst ∧ v_10.fst ≤ (64 : Int)) ∧ ((0 : Int) ≤ v_10.snd ∧ v_10.snd ≤ (18446744073709551615 : Int)) ∧ v_10.fst + cnt (64 : Nat) v_10.snd = cnt w.toNat b) →
    br (v_10.snd != (0 : Int))
     (∀ (n12 : Int),
      (n12 = IntKind.i64.wrap (v_10.fst + (1 : Int))) →
      ((-9223372036854775808 : Int) ≤ n12 ∧ n12 ≤ (9223372036854775807 : Int)) →
      ∀ (n15 : Int),
      (n15 = IntKind.u64.wrap (v_10.snd - (1 : Int))) →
      ((0 : Int) ≤ n15 ∧ n15 ≤ (18446744073709551615 : Int)) →
      ∀ (n18 : Int),
      (n18 = bits BinOp.and IntKind.u64 v_10.snd n15) →
      ((0 : Int) ≤ n18 ∧ n18 ≤ (18446744073709551615 : Int)) →
      ∃ (v' : Int × Int),
      (w = w) ∧
      (n12 = v'.fst) ∧
      (n18 = v'.snd) ∧
      (
       (
        ((0 : Int) ≤ v'.fst) ∧
        (v'.fst ≤ (64 : Int))) ∧
       (
        ((0 : Int) ≤ v'.snd) ∧
        (v'.snd ≤ (18446744073709551615 : Int))) ∧
       (v'.fst + cnt (64 : Nat) v'.snd = cnt w.toNat b)) ∧
      (v'.snd.toNat < v_10.snd.toNat))
     ((
       ((-9223372036854775808 : Int) ≤ v_10.fst) ∧
       (v_10.fst ≤ (9223372036854775807 : Int))) ∧
      ∀ (r_21 : Int),
      (r_21 = ofI v_10.fst) →
      ((-70368744177664 : Int) ≤ r_21 ∧ r_21 ≤ (70368744177664 : Int)) →
      (
       ((-9223372036854775808 : Int) ≤ w) ∧
       (w ≤ (9223372036854775807 : Int))) ∧
      ∀ (r_24 : Int),
      (r_24 = ofI w) →
      ((-70368744177664 : Int) ≤ r_24 ∧ r_24 ≤ (70368744177664 : Int)) →
      (
       ((-9223372036854775808 : Int) ≤ r_21) ∧
       (r_21 ≤ (9223372036854775807 : Int))) ∧
      (
       ((-9223372036854775808 : Int) ≤ r_24) ∧
       (r_24 ≤ (9223372036854775807 : Int))) ∧
      ∀ (q_27 : Int),
      ∀ (e_28 : Int),
      (q_27 = divQ r_21 r_24) →
      (e_28 = divE r_24) →
      ((-70368744177664 : Int) ≤ q_27 ∧ q_27 ≤ (70368744177664 : Int)) →
      (e_28 = (0 : Int) ∨ e_28 = (10 : Int)) →
      (k (AV.tup [AV.int IntKind.i64 q_27, AV.int IntKind.i64 e_28]) [] []))) := by
  refine br_intro (fun c1 => ?_) (fun c1 => ?_) -- bif decide (w < (1 : Int)) then true else decide (w > (64 : Int))
  · -- yes
    simp at c1 -- w < (1 : Int) ∨ (64 : Int) < w
    -- k (AV.tup [AV.int IntKind.i64 (0 : Int), AV.int IntKind.i64 (2 : Int)]) [] []
    have pb := wbad (b := b) c1
    exact hk _ _ pb.1.symm pb.2.symm (by omega) (by omega)
  · -- no
    simp at c1 -- (1 : Int) ≤ w ∧ w ≤ (64 : Int)
    intro n1
    intro q1 -- n1 = b
    intro ⟨l1, u1⟩ -- (0 : Int) ≤ n1 ∧ n1 ≤ (18446744073709551615 : Int)
    intro n4
    intro q4 -- n4 = IntKind.i64.wrap ((64 : Int) - w)
    rw [IntKind.wrap_i64] at q4
    intro ⟨l4, u4⟩ -- (-9223372036854775808 : Int) ≤ n4 ∧ n4 ≤ (9223372036854775807 : Int)
    refine ⟨by first | omega | (dsimp only; omega), ?_⟩ -- (0 : Int) ≤ n4
    intro n7
    intro q7 -- n7 = IntKind.u64.wrap (n1 * (2 : Int) ^ min n4.toNat IntKind.u64.bits)
    rw [IntKind.wrap_u64] at q7
    intro ⟨l7, u7⟩ -- (0 : Int) ≤ n7 ∧ n7 ≤ (18446744073709551615 : Int)
    refine ⟨?_, ?_⟩
    · -- left
      refine ⟨((0 : Int), n7), ?_⟩
      refine ⟨by first | with_reducible rfl | rfl, ?_⟩ -- w = w
      refine ⟨by first | with_reducible rfl | rfl, ?_⟩ -- (0 : Int) = (0 : Int)
      refine ⟨by first | with_reducible rfl | rfl, ?_⟩ -- n7 = n7
      refine ⟨by first | omega | (dsimp only; omega), ?_⟩ -- (0 : Int) ≤ (0 : Int) ∧ (0 : Int) ≤ (64 : Int)
      refine ⟨by exact ⟨by assumption, by assumption⟩, ?_⟩ -- (0 : Int) ≤ n7 ∧ n7 ≤ (18446744073709551615 : Int)
      -- (0 : Int) + cnt (64 : Nat) n7 = cnt w.toNat b
      (try dsimp only)
      rw [q7, q1, show min n4.toNat IntKind.u64.bits = (64 - w).toNat by simp only [IntKind.bits]; omega, Int.zero_add]
      exact cnt_top w b c1 (by omega)
    intro v_10
    intro h2 -- ((0 : Int) ≤ v_10.fst ∧ v_10.fst ≤ (64 : Int)) ∧ ((0 : Int) ≤ v_10.snd ∧ v_10.snd ≤ (18446744073709551615 : Int)) ∧ v_10.fst + cnt (64 : Nat) v_10.snd = cnt w.toNat b
    have bd : 0 ≤ cnt w.toNat b ∧ cnt w.toNat b ≤ 64 := by (have := cnt_bd w.toNat b (by assumption); omega)
    refine br_intro (fun c3 => ?_) (fun c3 => ?_) -- v_10.snd != (0 : Int)
    · -- yes
      simp at c3 -- ¬v_10.snd = (0 : Int)
      intro n12
      intro q12 -- n12 = IntKind.i64.wrap (v_10.fst + (1 : Int))
      rw [IntKind.wrap_i64] at q12
      intro ⟨l12, u12⟩ -- (-9223372036854775808 : Int) ≤ n12 ∧ n12 ≤ (9223372036854775807 : Int)
      intro n15
      intro q15 -- n15 = IntKind.u64.wrap (v_10.snd - (1 : Int))
      rw [IntKind.wrap_u64] at q15
      intro ⟨l15, u15⟩ -- (0 : Int) ≤ n15 ∧ n15 ≤ (18446744073709551615 : Int)
      intro n18
      intro q18 -- n18 = bits BinOp.and IntKind.u64 v_10.snd n15
      intro ⟨l18, u18⟩ -- (0 : Int) ≤ n18 ∧ n18 ≤ (18446744073709551615 : Int)
      have ca : cnt 64 n18 + 1 = cnt 64 v_10.snd ∧ (0 ≤ n18 ∧ n18 ≤ n15) := by exact cnt_and h2.2.1.1 h2.2.1.2 c3 (by omega) q18
      have cb : 0 ≤ cnt 64 n18 := by exact (cnt_bd 64 n18 l18).1
      refine ⟨(n12, n18), ?_⟩
      refine ⟨by first | with_reducible rfl | rfl, ?_⟩ -- w = w
      refine ⟨by first | with_reducible rfl | rfl, ?_⟩ -- n12 = n12
      refine ⟨by first | with_reducible rfl | rfl, ?_⟩ -- n18 = n18
      refine ⟨?_, ?_⟩
      · -- left
        refine ⟨by first | omega | (dsimp only; omega), ?_⟩ -- (0 : Int) ≤ n12 ∧ n12 ≤ (64 : Int)
        refine ⟨by exact ⟨by assumption, by assumption⟩, ?_⟩ -- (0 : Int) ≤ n18 ∧ n18 ≤ (18446744073709551615 : Int)
        exact by show n12 + cnt (64 : Nat) n18 = cnt w.toNat b; omega -- n12 + cnt (64 : Nat) n18 = cnt w.toNat b
      exact by show n18.toNat < v_10.snd.toNat; omega -- n18.toNat < v_10.snd.toNat
    · -- no
      simp at c3 -- v_10.snd = (0 : Int)
      refine ⟨by first | omega | (dsimp only; omega), ?_⟩ -- (-9223372036854775808 : Int) ≤ v_10.fst ∧ v_10.fst ≤ (9223372036854775807 : Int)
      intro r_21
      intro h4 -- r_21 = ofI v_10.fst
      intro ⟨a5, b5⟩ -- (-70368744177664 : Int) ≤ r_21 ∧ r_21 ≤ (70368744177664 : Int)
      refine ⟨by exact ⟨by assumption, by assumption⟩, ?_⟩ -- (-9223372036854775808 : Int) ≤ w ∧ w ≤ (9223372036854775807 : Int)
      intro r_24
      intro h6 -- r_24 = ofI w
      intro ⟨a7, b7⟩ -- (-70368744177664 : Int) ≤ r_24 ∧ r_24 ≤ (70368744177664 : Int)
      refine ⟨by first | omega | (dsimp only; omega), ?_⟩ -- (-9223372036854775808 : Int) ≤ r_21 ∧ r_21 ≤ (9223372036854775807 : Int)
      refine ⟨by first | omega | (dsimp only; omega), ?_⟩ -- (-9223372036854775808 : Int) ≤ r_24 ∧ r_24 ≤ (9223372036854775807 : Int)
      intro q_27
      intro e_28
      intro h8 -- q_27 = divQ r_21 r_24
      intro h9 -- e_28 = divE r_24
      intro ⟨a10, b10⟩ -- (-70368744177664 : Int) ≤ q_27 ∧ q_27 ≤ (70368744177664 : Int)
      intro h11 -- e_28 = (0 : Int) ∨ e_28 = (10 : Int)
      -- k (AV.tup [AV.int IntKind.i64 q_27, AV.int IntKind.i64 e_28]) [] []
      have cc : v_10.fst = cnt w.toNat b := by
        have z := h2.2.2
        rw [c3, cnt_zero] at z; omega
      have sv := wshare (w := w) (b := b) c1 (by assumption) cc
      rw [← h4, ← h6, ← h8, ← h9] at sv
      exact hk _ _ sv.1 sv.2.1 (by omega) (by omega)

theorem share_ok : Holds Try.prog 9 shareS := by
  refine fn_sound (env := mkEnv T3) (tab_ok T3_ok) Try.func9 Try.call9 fun args k h => ?_
  match args, h with
  | [.agg [.int .u64 b], .int .i64 w], h => exact ⟨by kernel_rfl, shareLoops b w, fun _ _ => none, .cast (by kernel_rfl) (share_vc b h.1.1 h.1.2 w h.2.1.1 h.2.1.2 k h.2.2)⟩
set_option maxHeartbeats 2000000 in
theorem rshare_vc (b : Int) (b0 : (0 : Int) ≤ b) (b1 : b ≤ (18446744073709551615 : Int)) (w : Int) (w0 : (-9223372036854775808 : Int) ≤ w) (w1 : w ≤ (9223372036854775807 : Int)) (k : AV → List (Option Blk) → List Blk → Prop) (hk : ∀ (v e : Int), v = wS b w → e = wE w → (0 : Int) ≤ v ∧ v ≤ (65536 : Int) → e = (0 : Int) ∨ e = (2 : Int) → k (AV.tup [AV.int IntKind.i64 v, AV.int IntKind.i64 e]) [] []) :
  br (bif decide (w < (1 : Int)) then true else decide (w > (64 : Int)))
   ((k (AV.tup [AV.int IntKind.i64 (0 : Int), AV.int IntKind.i64 (2 : Int)]) [] []))
   (∀ (n1 : Int),
    (n1 = b) →
    ((0 : Int) ≤ n1 ∧ n1 ≤ (18446744073709551615 : Int)) →
    (
     ∃ (v : Int × Int × Int),
     (w = w) ∧
     ((0 : Int) = v.fst) ∧
     (n1 = v.snd.fst) ∧
     ((0 : Int) = v.snd.snd) ∧
     (
      ((0 : Int) ≤ v.snd.snd) ∧
      (v.snd.snd ≤ w)) ∧
     (
      ((0 : Int) ≤ v.snd.fst) ∧
      (v.snd.fst ≤ (18446744073709551615 : Int))) ∧
     (
      ((0 : Int) ≤ v.fst) ∧
      (v.fst ≤ v.snd.snd)) ∧
     (v.fst + cnt (w - v.snd.snd).toNat v.snd.fst = cnt w.toNat b)) ∧
    ∀ (v_4 : Int × Int × Int),
    (((0 : Int) ≤ v_4.snd.snd ∧ v_4.snd.snd ≤ w) ∧ ((0 : Int) ≤ v_4.snd.fst ∧ v_4.snd.fst ≤ (18446744073709551615 : Int)) ∧ ((0 : Int) ≤ v_4.fst ∧ v_4.fst ≤ v_4.snd.snd) ∧ v_4.fst + cnt (w - v_4.snd.snd).toNat v_4.snd.fst = cnt w.toNat b) →
    br (decide (v_4.snd.snd < w))
     (((2 : Int) ≠ (0 : Int)) ∧
      ∀ (n6 : Int),
      (n6 = v_4.snd.fst.tmod (2 : Int)) →
      ((0 : Int) ≤ n6 ∧ n6 ≤ (18446744073709551615 : Int)) →
      ∀ (n9 : Int),
      (n9 = IntKind.i64.wrap n6) →
      ((-9223372036854775808 : Int) ≤ n9 ∧ n9 ≤ (9223372036854775807 : Int)) →
      ∀ (n12 : Int),
      (n12 = IntKind.i64.wrap (v_4.fst + n9)) →
      ((-9223372036854775808 : Int) ≤ n12 ∧ n12 ≤ (9223372036854775807 : Int)) →
      ((2 : Int) ≠ (0 : Int)) ∧
      ∀ (n15 : Int),
      (n15 = IntKind.u64.wrap (v_4.snd.fst.tdiv (2 : Int))) →
      ((0 : Int) ≤ n15 ∧ n15 ≤ (18446744073709551615 : Int)) →
      ∀ (n18 : Int),
      (n18 = IntKind.i64.wrap (v_4.snd.snd + (1 : Int))) →
      ((-9223372036854775808 : Int) ≤ n18 ∧ n18 ≤ (9223372036854775807 : Int)) →
      ∃ (v' : Int × Int × Int),
      (w = w) ∧
      (n12 = v'.fst) ∧
      (n15 = v'.snd.fst) ∧
      (n18 = v'.snd.snd) ∧
      (
       (
        ((0 : Int) ≤ v'.snd.snd) ∧
        (v'.snd.snd ≤ w)) ∧
       (
        ((0 : Int) ≤ v'.snd.fst) ∧
        (v'.snd.fst ≤ (18446744073709551615 : Int))) ∧
       (
        ((0 : Int) ≤ v'.fst) ∧
        (v'.fst ≤ v'.snd.snd)) ∧
       (v'.fst + cnt (w - v'.snd.snd).toNat v'.snd.fst = cnt w.toNat b)) ∧
      ((w - v'.snd.snd).toNat < (w - v_4.snd.snd).toNat))
     ((
       ((-9223372036854775808 : Int) ≤ v_4.fst) ∧
       (v_4.fst ≤ (9223372036854775807 : Int))) ∧
      ∀ (r_21 : Int),
      (r_21 = ofI v_4.fst) →
      ((-70368744177664 : Int) ≤ r_21 ∧ r_21 ≤ (70368744177664 : Int)) →
      (
       ((-9223372036854775808 : Int) ≤ w) ∧
       (w ≤ (9223372036854775807 : Int))) ∧
      ∀ (r_24 : Int),
      (r_24 = ofI w) →
      ((-70368744177664 : Int) ≤ r_24 ∧ r_24 ≤ (70368744177664 : Int)) →
      (
       ((-9223372036854775808 : Int) ≤ r_21) ∧
       (r_21 ≤ (9223372036854775807 : Int))) ∧
      (
       ((-9223372036854775808 : Int) ≤ r_24) ∧
       (r_24 ≤ (9223372036854775807 : Int))) ∧
      ∀ (q_27 : Int),
      ∀ (e_28 : Int),
      (q_27 = divQ r_21 r_24) →
      (e_28 = divE r_24) →
      ((-70368744177664 : Int) ≤ q_27 ∧ q_27 ≤ (70368744177664 : Int)) →
      (e_28 = (0 : Int) ∨ e_28 = (10 : Int)) →
      (k (AV.tup [AV.int IntKind.i64 q_27, AV.int IntKind.i64 (0 : Int)]) [] []))) := by
  refine br_intro (fun c1 => ?_) (fun c1 => ?_) -- bif decide (w < (1 : Int)) then true else decide (w > (64 : Int))
  · -- yes
    simp at c1 -- w < (1 : Int) ∨ (64 : Int) < w
    -- k (AV.tup [AV.int IntKind.i64 (0 : Int), AV.int IntKind.i64 (2 : Int)]) [] []
    have pb := wbad (b := b) c1
    exact hk _ _ pb.1.symm pb.2.symm (by omega) (by omega)
  · -- no
    simp at c1 -- (1 : Int) ≤ w ∧ w ≤ (64 : Int)
    intro n1
    intro q1 -- n1 = b
    intro ⟨l1, u1⟩ -- (0 : Int) ≤ n1 ∧ n1 ≤ (18446744073709551615 : Int)
    refine ⟨?_, ?_⟩
    · -- left
      refine ⟨((0 : Int), n1, (0 : Int)), ?_⟩
      refine ⟨by first | with_reducible rfl | rfl, ?_⟩ -- w = w
      refine ⟨by first | with_reducible rfl | rfl, ?_⟩ -- (0 : Int) = (0 : Int)
      refine ⟨by first | with_reducible rfl | rfl, ?_⟩ -- n1 = n1
      refine ⟨by first | with_reducible rfl | rfl, ?_⟩ -- (0 : Int) = (0 : Int)
      refine ⟨by first | omega | (dsimp only; omega), ?_⟩ -- (0 : Int) ≤ (0 : Int) ∧ (0 : Int) ≤ w
      refine ⟨by exact ⟨by assumption, by assumption⟩, ?_⟩ -- (0 : Int) ≤ n1 ∧ n1 ≤ (18446744073709551615 : Int)
      refine ⟨by first | omega | (dsimp only; omega), ?_⟩ -- (0 : Int) ≤ (0 : Int) ∧ (0 : Int) ≤ (0 : Int)
      -- (0 : Int) + cnt (w - (0 : Int)).toNat n1 = cnt w.toNat b
      rw [q1, Int.sub_zero]; exact Int.zero_add _
    intro v_4
    intro h2 -- ((0 : Int) ≤ v_4.snd.snd ∧ v_4.snd.snd ≤ w) ∧ ((0 : Int) ≤ v_4.snd.fst ∧ v_4.snd.fst ≤ (18446744073709551615 : Int)) ∧ ((0 : Int) ≤ v_4.fst ∧ v_4.fst ≤ v_4.snd.snd) ∧ v_4.fst + cnt (w - v_4.snd.snd).toNat v_4.snd.fst = cnt w.toNat b
    refine brd (fun c3 => ?_) (fun c3 => ?_) -- decide (v_4.snd.snd < w)
    · -- yes
      refine ⟨by first | omega | (dsimp only; omega), ?_⟩ -- (2 : Int) ≠ (0 : Int)
      intro n6
      intro q6 -- n6 = v_4.snd.fst.tmod (2 : Int)
      rw [Int.tmod_eq_emod_of_nonneg (by omega)] at q6
      intro ⟨l6, u6⟩ -- (0 : Int) ≤ n6 ∧ n6 ≤ (18446744073709551615 : Int)
      intro n9
      intro q9 -- n9 = IntKind.i64.wrap n6
      rw [IntKind.wrap_i64] at q9
      intro ⟨l9, u9⟩ -- (-9223372036854775808 : Int) ≤ n9 ∧ n9 ≤ (9223372036854775807 : Int)
      intro n12
      intro q12 -- n12 = IntKind.i64.wrap (v_4.fst + n9)
      rw [IntKind.wrap_i64] at q12
      intro ⟨l12, u12⟩ -- (-9223372036854775808 : Int) ≤ n12 ∧ n12 ≤ (9223372036854775807 : Int)
      refine ⟨by first | omega | (dsimp only; omega), ?_⟩ -- (2 : Int) ≠ (0 : Int)
      intro n15
      intro q15 -- n15 = IntKind.u64.wrap (v_4.snd.fst.tdiv (2 : Int))
      rw [Int.tdiv_eq_ediv_of_nonneg (by omega)] at q15
      rw [IntKind.wrap_u64] at q15
      intro ⟨l15, u15⟩ -- (0 : Int) ≤ n15 ∧ n15 ≤ (18446744073709551615 : Int)
      intro n18
      intro q18 -- n18 = IntKind.i64.wrap (v_4.snd.snd + (1 : Int))
      rw [IntKind.wrap_i64] at q18
      intro ⟨l18, u18⟩ -- (-9223372036854775808 : Int) ≤ n18 ∧ n18 ≤ (9223372036854775807 : Int)
      refine ⟨(n12, n15, n18), ?_⟩
      refine ⟨by first | with_reducible rfl | rfl, ?_⟩ -- w = w
      refine ⟨by first | with_reducible rfl | rfl, ?_⟩ -- n12 = n12
      refine ⟨by first | with_reducible rfl | rfl, ?_⟩ -- n15 = n15
      refine ⟨by first | with_reducible rfl | rfl, ?_⟩ -- n18 = n18
      refine ⟨?_, ?_⟩
      · -- left
        refine ⟨by first | omega | (dsimp only; omega), ?_⟩ -- (0 : Int) ≤ n18 ∧ n18 ≤ w
        refine ⟨by exact ⟨by assumption, by assumption⟩, ?_⟩ -- (0 : Int) ≤ n15 ∧ n15 ≤ (18446744073709551615 : Int)
        refine ⟨by first | omega | (dsimp only; omega), ?_⟩ -- (0 : Int) ≤ n12 ∧ n12 ≤ n18
        -- n12 + cnt (w - n18).toNat n15 = cnt w.toNat b
        have cn := cnt_next (w := w) (i := v_4.snd.snd) (j := n18) (y := v_4.snd.fst) (z := n15) c3 (by omega) (by omega)
        (try dsimp only)
        omega
      exact by show (w - n18).toNat < (w - v_4.snd.snd).toNat; omega -- (w - n18).toNat < (w - v_4.snd.snd).toNat
    · -- no
      refine ⟨by first | omega | (dsimp only; omega), ?_⟩ -- (-9223372036854775808 : Int) ≤ v_4.fst ∧ v_4.fst ≤ (9223372036854775807 : Int)
      intro r_21
      intro h4 -- r_21 = ofI v_4.fst
      intro ⟨a5, b5⟩ -- (-70368744177664 : Int) ≤ r_21 ∧ r_21 ≤ (70368744177664 : Int)
      refine ⟨by exact ⟨by assumption, by assumption⟩, ?_⟩ -- (-9223372036854775808 : Int) ≤ w ∧ w ≤ (9223372036854775807 : Int)
      intro r_24
      intro h6 -- r_24 = ofI w
      intro ⟨a7, b7⟩ -- (-70368744177664 : Int) ≤ r_24 ∧ r_24 ≤ (70368744177664 : Int)
      refine ⟨by first | omega | (dsimp only; omega), ?_⟩ -- (-9223372036854775808 : Int) ≤ r_21 ∧ r_21 ≤ (9223372036854775807 : Int)
      refine ⟨by first | omega | (dsimp only; omega), ?_⟩ -- (-9223372036854775808 : Int) ≤ r_24 ∧ r_24 ≤ (9223372036854775807 : Int)
      intro q_27
      intro e_28
      intro h8 -- q_27 = divQ r_21 r_24
      intro h9 -- e_28 = divE r_24
      intro ⟨a10, b10⟩ -- (-70368744177664 : Int) ≤ q_27 ∧ q_27 ≤ (70368744177664 : Int)
      intro h11 -- e_28 = (0 : Int) ∨ e_28 = (10 : Int)
      -- k (AV.tup [AV.int IntKind.i64 q_27, AV.int IntKind.i64 (0 : Int)]) [] []
      have cc : v_4.fst = cnt w.toNat b := by
        have z := h2.2.2.2
        rw [show (w - v_4.snd.snd).toNat = 0 by omega] at z
        simpa [cnt] using z
      have sv := wshare (w := w) (b := b) c1 (by assumption) cc
      rw [← h4, ← h6, ← h8, ← h9] at sv
      exact hk _ _ sv.1 sv.2.2.2.symm (by omega) (by omega)

theorem rshare_ok : Holds Try.prog 11 shareS := by
  refine fn_sound (env := mkEnv T3) (tab_ok T3_ok) Try.func11 Try.call11 fun args k h => ?_
  match args, h with
  | [.agg [.int .u64 b], .int .i64 w], h => exact ⟨by kernel_rfl, rshareLoops b w, fun _ _ => none, .cast (by kernel_rfl) (rshare_vc b h.1.1 h.1.2 w h.2.1.1 h.2.1.2 k h.2.2)⟩
theorem T4_ok : TabOk Try.prog T4 := ⟨share_ok, rshare_ok, next_ok, rnext_ok, trivial⟩
set_option maxHeartbeats 2000000 in
theorem poor_vc (b : Int) (b0 : (0 : Int) ≤ b) (b1 : b ≤ (18446744073709551615 : Int)) (w : Int) (w0 : (-9223372036854775808 : Int) ≤ w) (w1 : w ≤ (9223372036854775807 : Int)) (z : Int) (z0 : (-9223372036854775808 : Int) ≤ z) (z1 : z ≤ (9223372036854775807 : Int)) (k : AV → List (Option Blk) → List Blk → Prop) (hk : ∀ (p : Bool) (e : Int), p = pV b w z → e = pE w z → e = (0 : Int) ∨ e = (2 : Int) → k (AV.tup [AV.bool p, AV.int IntKind.i64 e]) [] []) :
  (
   ((0 : Int) ≤ b) ∧
   (b ≤ (18446744073709551615 : Int))) ∧
  (
   ((-9223372036854775808 : Int) ≤ w) ∧
   (w ≤ (9223372036854775807 : Int))) ∧
  ∀ (v_1 : Int),
  ∀ (e_2 : Int),
  (v_1 = wS b w) →
  (e_2 = wE w) →
  ((0 : Int) ≤ v_1 ∧ v_1 ≤ (65536 : Int)) →
  (e_2 = (0 : Int) ∨ e_2 = (2 : Int)) →
  br (e_2 != (0 : Int))
   ((k (AV.tup [AV.bool false, AV.int IntKind.i64 e_2]) [] []))
   (br (bif decide (z < (0 : Int)) then true else decide (z > (65536 : Int)))
     ((k (AV.tup [AV.bool false, AV.int IntKind.i64 (2 : Int)]) [] []))
     ((k (AV.tup [AV.bool (decide (v_1 < z)), AV.int IntKind.i64 (0 : Int)]) [] []))) := by
  refine ⟨by exact ⟨by assumption, by assumption⟩, ?_⟩ -- (0 : Int) ≤ b ∧ b ≤ (18446744073709551615 : Int)
  refine ⟨by exact ⟨by assumption, by assumption⟩, ?_⟩ -- (-9223372036854775808 : Int) ≤ w ∧ w ≤ (9223372036854775807 : Int)
  intro v_1
  intro e_2
  intro h1 -- v_1 = wS b w
  intro h2 -- e_2 = wE w
  intro ⟨a3, b3⟩ -- (0 : Int) ≤ v_1 ∧ v_1 ≤ (65536 : Int)
  intro h4 -- e_2 = (0 : Int) ∨ e_2 = (2 : Int)
  refine br_intro (fun c5 => ?_) (fun c5 => ?_) -- e_2 != (0 : Int)
  · -- yes
    simp at c5 -- ¬e_2 = (0 : Int)
    -- k (AV.tup [AV.bool false, AV.int IntKind.i64 e_2]) [] []
    have c := c5
    rw [h2] at c
    have pb := p_bad (b := b) (z := z) c
    exact hk _ _ pb.1.symm (by omega) (by omega)
  · -- no
    simp at c5 -- e_2 = (0 : Int)
    refine br_intro (fun c6 => ?_) (fun c6 => ?_) -- bif decide (z < (0 : Int)) then true else decide (z > (65536 : Int))
    · -- yes
      simp at c6 -- z < (0 : Int) ∨ (65536 : Int) < z
      -- k (AV.tup [AV.bool false, AV.int IntKind.i64 (2 : Int)]) [] []
      have pb := p_arg (b := b) (h2.symm.trans c5) c6
      exact hk _ _ pb.1.symm pb.2.symm (by omega)
    · -- no
      simp at c6 -- (0 : Int) ≤ z ∧ z ≤ (65536 : Int)
      -- k (AV.tup [AV.bool (decide (v_1 < z)), AV.int IntKind.i64 (0 : Int)]) [] []
      have pb := p_good (b := b) (h2.symm.trans c5) c6
      exact hk _ _ (by rw [h1]; exact pb.1) pb.2.symm (by omega)

theorem poor_ok : Holds Try.prog 10 poorS := by
  refine fn_sound (env := mkEnv T4) (tab_ok T4_ok) Try.func10 Try.call10 fun args k h => ?_
  match args, h with
  | [.agg [.int .u64 b], .int .i64 w, .int .i64 z], h => exact ⟨by kernel_rfl, fun _ _ => none, fun _ _ => none, .cast (by kernel_rfl) (poor_vc b h.1.1 h.1.2 w h.2.1.1 h.2.1.2 z h.2.2.1.1 h.2.2.1.2 k h.2.2.2)⟩
set_option maxHeartbeats 2000000 in
theorem rpoor_vc (b : Int) (b0 : (0 : Int) ≤ b) (b1 : b ≤ (18446744073709551615 : Int)) (w : Int) (w0 : (-9223372036854775808 : Int) ≤ w) (w1 : w ≤ (9223372036854775807 : Int)) (z : Int) (z0 : (-9223372036854775808 : Int) ≤ z) (z1 : z ≤ (9223372036854775807 : Int)) (k : AV → List (Option Blk) → List Blk → Prop) (hk : ∀ (p : Bool) (e : Int), p = pV b w z → e = pE w z → e = (0 : Int) ∨ e = (2 : Int) → k (AV.tup [AV.bool p, AV.int IntKind.i64 e]) [] []) :
  (
   ((0 : Int) ≤ b) ∧
   (b ≤ (18446744073709551615 : Int))) ∧
  (
   ((-9223372036854775808 : Int) ≤ w) ∧
   (w ≤ (9223372036854775807 : Int))) ∧
  ∀ (v_1 : Int),
  ∀ (e_2 : Int),
  (v_1 = wS b w) →
  (e_2 = wE w) →
  ((0 : Int) ≤ v_1 ∧ v_1 ≤ (65536 : Int)) →
  (e_2 = (0 : Int) ∨ e_2 = (2 : Int)) →
  br (e_2 != (0 : Int))
   ((k (AV.tup [AV.bool false, AV.int IntKind.i64 e_2]) [] []))
   (br (bif decide (z < (0 : Int)) then true else decide (z > (65536 : Int)))
     ((k (AV.tup [AV.bool false, AV.int IntKind.i64 (2 : Int)]) [] []))
     ((k (AV.tup [AV.bool (decide (v_1 < z)), AV.int IntKind.i64 (0 : Int)]) [] []))) := by
  refine ⟨by exact ⟨by assumption, by assumption⟩, ?_⟩ -- (0 : Int) ≤ b ∧ b ≤ (18446744073709551615 : Int)
  refine ⟨by exact ⟨by assumption, by assumption⟩, ?_⟩ -- (-9223372036854775808 : Int) ≤ w ∧ w ≤ (9223372036854775807 : Int)
  intro v_1
  intro e_2
  intro h1 -- v_1 = wS b w
  intro h2 -- e_2 = wE w
  intro ⟨a3, b3⟩ -- (0 : Int) ≤ v_1 ∧ v_1 ≤ (65536 : Int)
  intro h4 -- e_2 = (0 : Int) ∨ e_2 = (2 : Int)
  refine br_intro (fun c5 => ?_) (fun c5 => ?_) -- e_2 != (0 : Int)
  · -- yes
    simp at c5 -- ¬e_2 = (0 : Int)
    -- k (AV.tup [AV.bool false, AV.int IntKind.i64 e_2]) [] []
    have c := c5
    rw [h2] at c
    have pb := p_bad (b := b) (z := z) c
    exact hk _ _ pb.1.symm (by omega) (by omega)
  · -- no
    simp at c5 -- e_2 = (0 : Int)
    refine br_intro (fun c6 => ?_) (fun c6 => ?_) -- bif decide (z < (0 : Int)) then true else decide (z > (65536 : Int))
    · -- yes
      simp at c6 -- z < (0 : Int) ∨ (65536 : Int) < z
      -- k (AV.tup [AV.bool false, AV.int IntKind.i64 (2 : Int)]) [] []
      have pb := p_arg (b := b) (h2.symm.trans c5) c6
      exact hk _ _ pb.1.symm pb.2.symm (by omega)
    · -- no
      simp at c6 -- (0 : Int) ≤ z ∧ z ≤ (65536 : Int)
      -- k (AV.tup [AV.bool (decide (v_1 < z)), AV.int IntKind.i64 (0 : Int)]) [] []
      have pb := p_good (b := b) (h2.symm.trans c5) c6
      exact hk _ _ (by rw [h1]; exact pb.1) pb.2.symm (by omega)

theorem rpoor_ok : Holds Try.prog 12 poorS := by
  refine fn_sound (env := mkEnv T4) (tab_ok T4_ok) Try.func12 Try.call12 fun args k h => ?_
  match args, h with
  | [.agg [.int .u64 b], .int .i64 w, .int .i64 z], h => exact ⟨by kernel_rfl, fun _ _ => none, fun _ _ => none, .cast (by kernel_rfl) (rpoor_vc b h.1.1 h.1.2 w h.2.1.1 h.2.1.2 z h.2.2.1.1 h.2.2.1.2 k h.2.2.2)⟩
theorem alive_ok : Holds Try.prog 7 trueS := by
  refine fn_sound (env := lenv) lenv_ok Try.func7 Try.call7 fun args k h => ?_
  match args, h with
  | [], h => exact ⟨by kernel_rfl, fun _ _ => none, fun _ _ => none, .cast (by kernel_rfl) h⟩

theorem T5_ok : TabOk Try.prog T5 := ⟨alive_ok, poor_ok, rpoor_ok, T4_ok⟩
end Go.Proofs.Ytdhdbdaceklkhaa

