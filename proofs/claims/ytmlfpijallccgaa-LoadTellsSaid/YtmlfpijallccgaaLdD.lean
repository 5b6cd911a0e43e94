/- The statements of layer 24 (load): how full a green is, smoothed loads, the greatest of some, for every input. No conditions. -/
import Derived.Test.YtmlfpijallccgaaLdC
import Derived.Test.YtmlfpijallccgaaEngR
import Derived.Test.YtmlfpijallccgaaRows
namespace Go.Proofs.Ytmlfpijallccgaa
open Go Go.Eng Go.Fx Go.Proofs
set_option linter.unusedVariables false
set_option maxHeartbeats 2000000 in
theorem loadGrows_vc (green : Int) (green0 : (-9223372036854775808 : Int) ≤ green) (green1 : green ≤ (9223372036854775807 : Int)) (busy : Int) (busy0 : (-9223372036854775808 : Int) ≤ busy) (busy1 : busy ≤ (9223372036854775807 : Int)) (came : Int) (came0 : (-9223372036854775808 : Int) ≤ came) (came1 : came ≤ (9223372036854775807 : Int)) (headway : Int) (headway0 : (-9223372036854775808 : Int) ≤ headway) (headway1 : headway ≤ (9223372036854775807 : Int)) (more : Int) (more0 : (-9223372036854775808 : Int) ≤ more) (more1 : more ≤ (9223372036854775807 : Int)) (others : Int) (others0 : (-9223372036854775808 : Int) ≤ others) (others1 : others ≤ (9223372036854775807 : Int)) (longer : Int) (longer0 : (-9223372036854775808 : Int) ≤ longer) (longer1 : longer ≤ (9223372036854775807 : Int)) (k : AV → List (Option Blk) → List Blk → Prop) (hk : k (AV.bool true) [] []) :
  (
   ((-9223372036854775808 : Int) ≤ green) ∧
   (green ≤ (9223372036854775807 : Int))) ∧
  (
   ((-9223372036854775808 : Int) ≤ busy) ∧
   (busy ≤ (9223372036854775807 : Int))) ∧
  (
   ((-9223372036854775808 : Int) ≤ came) ∧
   (came ≤ (9223372036854775807 : Int))) ∧
  (
   ((-9223372036854775808 : Int) ≤ headway) ∧
   (headway ≤ (9223372036854775807 : Int))) ∧
  ∀ (v_1 : Int),
  ∀ (e_2 : Int),
  (v_1 = loadV green busy came headway) →
  (e_2 = loadE green busy came headway) →
  ((0 : Int) ≤ v_1 ∧ v_1 ≤ (65536 : Int)) →
  (e_2 = (0 : Int) ∨ e_2 = (2 : Int)) →
  br (bif e_2 != (0 : Int) then true else !true)
   ((k (AV.bool (bif true then v_1 == (0 : Int) else false)) [] []))
   ((
     ((-9223372036854775808 : Int) ≤ green) ∧
     (green ≤ (9223372036854775807 : Int))) ∧
    (
     ((-9223372036854775808 : Int) ≤ more) ∧
     (more ≤ (9223372036854775807 : Int))) ∧
    (
     ((-9223372036854775808 : Int) ≤ others) ∧
     (others ≤ (9223372036854775807 : Int))) ∧
    (
     ((-9223372036854775808 : Int) ≤ longer) ∧
     (longer ≤ (9223372036854775807 : Int))) ∧
    ∀ (v_7 : Int),
    ∀ (e_8 : Int),
    (v_7 = loadV green more others longer) →
    (e_8 = loadE green more others longer) →
    ((0 : Int) ≤ v_7 ∧ v_7 ≤ (65536 : Int)) →
    (e_8 = (0 : Int) ∨ e_8 = (2 : Int)) →
    br (bif bif bif bif e_8 == (0 : Int) then decide (more ≥ busy) else false then decide (others ≥ came) else false then decide (longer ≥ headway) else false then decide (v_7 < v_1) else false)
     ((k (AV.bool false) [] []))
     ((
       ((-9223372036854775808 : Int) ≤ green) ∧
       (green ≤ (9223372036854775807 : Int))) ∧
      (
       ((-9223372036854775808 : Int) ≤ green) ∧
       (green ≤ (9223372036854775807 : Int))) ∧
      (
       ((-9223372036854775808 : Int) ≤ came) ∧
       (came ≤ (9223372036854775807 : Int))) ∧
      (
       ((-9223372036854775808 : Int) ≤ headway) ∧
       (headway ≤ (9223372036854775807 : Int))) ∧
      ∀ (v_13 : Int),
      ∀ (e_14 : Int),
      (v_13 = loadV green green came headway) →
      (e_14 = loadE green green came headway) →
      ((0 : Int) ≤ v_13 ∧ v_13 ≤ (65536 : Int)) →
      (e_14 = (0 : Int) ∨ e_14 = (2 : Int)) →
      (k (AV.bool (bif bif bif decide (v_1 ≥ (0 : Int)) then decide (v_1 ≤ (65536 : Int)) else false then e_14 == (0 : Int) else false then bif v_13 == (65536 : Int) then true else green == (0 : Int) else false)) [] []))) := by
  refine ⟨by exact ⟨by assumption, by assumption⟩, ?_⟩ -- (-9223372036854775808 : Int) ≤ green ∧ green ≤ (9223372036854775807 : Int)
  refine ⟨by exact ⟨by assumption, by assumption⟩, ?_⟩ -- (-9223372036854775808 : Int) ≤ busy ∧ busy ≤ (9223372036854775807 : Int)
  refine ⟨by exact ⟨by assumption, by assumption⟩, ?_⟩ -- (-9223372036854775808 : Int) ≤ came ∧ came ≤ (9223372036854775807 : Int)
  refine ⟨by exact ⟨by assumption, by assumption⟩, ?_⟩ -- (-9223372036854775808 : Int) ≤ headway ∧ headway ≤ (9223372036854775807 : Int)
  intro v_1
  intro e_2
  intro h1 -- v_1 = loadV green busy came headway
  intro h2 -- e_2 = loadE green busy came headway
  intro ⟨a3, b3⟩ -- (0 : Int) ≤ v_1 ∧ v_1 ≤ (65536 : Int)
  intro h4 -- e_2 = (0 : Int) ∨ e_2 = (2 : Int)
  refine br_intro (fun c5 => ?_) (fun c5 => ?_) -- bif e_2 != (0 : Int) then true else !true
  · -- yes
    simp at c5 -- ¬e_2 = (0 : Int)
    -- k (AV.bool (bif true then v_1 == (0 : Int) else false)) [] []
    exact k_true hk (by simp; rw [h1]; exact loadV_zero (by rw [← h2]; exact c5))
  · -- no
    simp at c5 -- e_2 = (0 : Int)
    refine ⟨by exact ⟨by assumption, by assumption⟩, ?_⟩ -- (-9223372036854775808 : Int) ≤ green ∧ green ≤ (9223372036854775807 : Int)
    refine ⟨by exact ⟨by assumption, by assumption⟩, ?_⟩ -- (-9223372036854775808 : Int) ≤ more ∧ more ≤ (9223372036854775807 : Int)
    refine ⟨by exact ⟨by assumption, by assumption⟩, ?_⟩ -- (-9223372036854775808 : Int) ≤ others ∧ others ≤ (9223372036854775807 : Int)
    refine ⟨by exact ⟨by assumption, by assumption⟩, ?_⟩ -- (-9223372036854775808 : Int) ≤ longer ∧ longer ≤ (9223372036854775807 : Int)
    intro v_7
    intro e_8
    intro h6 -- v_7 = loadV green more others longer
    intro h7 -- e_8 = loadE green more others longer
    intro ⟨a8, b8⟩ -- (0 : Int) ≤ v_7 ∧ v_7 ≤ (65536 : Int)
    intro h9 -- e_8 = (0 : Int) ∨ e_8 = (2 : Int)
    refine br_intro (fun c10 => ?_) (fun c10 => ?_) -- bif bif bif bif e_8 == (0 : Int) then decide (more ≥ busy) else false then decide (others ≥ came) else false then decide (longer ≥ headway) else false then decide (v_7 < v_1) else false
    · -- yes
      simp at c10 -- (((e_8 = (0 : Int) ∧ busy ≤ more) ∧ came ≤ others) ∧ headway ≤ longer) ∧ v_7 < v_1
      -- k (AV.bool false) [] []
      have := load_mono (by rw [← h2]; exact c5) (by rw [← h7]; exact c10.1.1.1.1) c10.1.1.1.2 c10.1.1.2 c10.1.2
      omega
    · -- no
      simp at c10 -- e_8 = (0 : Int) → busy ≤ more → came ≤ others → headway ≤ longer → v_1 ≤ v_7
      refine ⟨by exact ⟨by assumption, by assumption⟩, ?_⟩ -- (-9223372036854775808 : Int) ≤ green ∧ green ≤ (9223372036854775807 : Int)
      refine ⟨by exact ⟨by assumption, by assumption⟩, ?_⟩ -- (-9223372036854775808 : Int) ≤ green ∧ green ≤ (9223372036854775807 : Int)
      refine ⟨by exact ⟨by assumption, by assumption⟩, ?_⟩ -- (-9223372036854775808 : Int) ≤ came ∧ came ≤ (9223372036854775807 : Int)
      refine ⟨by exact ⟨by assumption, by assumption⟩, ?_⟩ -- (-9223372036854775808 : Int) ≤ headway ∧ headway ≤ (9223372036854775807 : Int)
      intro v_13
      intro e_14
      intro h11 -- v_13 = loadV green green came headway
      intro h12 -- e_14 = loadE green green came headway
      intro ⟨a13, b13⟩ -- (0 : Int) ≤ v_13 ∧ v_13 ≤ (65536 : Int)
      intro h14 -- e_14 = (0 : Int) ∨ e_14 = (2 : Int)
      -- k (AV.bool (bif bif bif decide (v_1 ≥ (0 : Int)) then decide (v_1 ≤ (65536 : Int)) else false then e_14 == (0 : Int) else false then bif v_13 == (65536 : Int) then true else green == (0 : Int) else false)) [] []
      have la := load_all (b := busy) (c := came) (h := headway) (g := green) (by rw [← h2]; exact c5)
      rw [← h11, ← h12] at la
      exact k_true hk (by simp; omega)

theorem loadGrows_ok : Holds Try.prog 3 lawI7 := by
  refine fn_sound (env := mkEnv T5) (tab_ok T5_ok) Try.func3 Try.call3 fun args k h => ?_
  match args, h with
  | [.int .i64 green, .int .i64 busy, .int .i64 came, .int .i64 headway, .int .i64 more, .int .i64 others, .int .i64 longer], h => exact ⟨by kernel_rfl, fun _ _ => none, fun _ _ => none, .cast (by kernel_rfl) (loadGrows_vc green h.1.1 h.1.2 busy h.2.1.1 h.2.1.2 came h.2.2.1.1 h.2.2.1.2 headway h.2.2.2.1.1 h.2.2.2.1.2 more h.2.2.2.2.1.1 h.2.2.2.2.1.2 others h.2.2.2.2.2.1.1 h.2.2.2.2.2.1.2 longer h.2.2.2.2.2.2.1.1 h.2.2.2.2.2.2.1.2 k h.2.2.2.2.2.2.2)⟩
set_option maxHeartbeats 2000000 in
theorem loadSmooths_vc (a : Int) (a0 : (-9223372036854775808 : Int) ≤ a) (a1 : a ≤ (9223372036854775807 : Int)) (b : Int) (b0 : (-9223372036854775808 : Int) ≤ b) (b1 : b ≤ (9223372036854775807 : Int)) (c : Int) (c0 : (-9223372036854775808 : Int) ≤ c) (c1 : c ≤ (9223372036854775807 : Int)) (k : AV → List (Option Blk) → List Blk → Prop) (hk : k (AV.bool true) [] []) :
  (
   ((-9223372036854775808 : Int) ≤ a) ∧
   (a ≤ (9223372036854775807 : Int))) ∧
  (
   ((-9223372036854775808 : Int) ≤ b) ∧
   (b ≤ (9223372036854775807 : Int))) ∧
  (
   ((-9223372036854775808 : Int) ≤ c) ∧
   (c ≤ (9223372036854775807 : Int))) ∧
  ∀ (v_1 : Int),
  ∀ (e_2 : Int),
  (v_1 = smoothV a b c) →
  (e_2 = smoothE a b c) →
  ((0 : Int) ≤ v_1 ∧ v_1 ≤ (65536 : Int)) →
  (e_2 = (0 : Int) ∨ e_2 = (2 : Int)) →
  (
   ((-9223372036854775808 : Int) ≤ a) ∧
   (a ≤ (9223372036854775807 : Int))) ∧
  (
   ((-9223372036854775808 : Int) ≤ b) ∧
   (b ≤ (9223372036854775807 : Int))) ∧
  (
   ((-9223372036854775808 : Int) ≤ c) ∧
   (c ≤ (9223372036854775807 : Int))) ∧
  ∀ (v_7 : Int),
  ∀ (e_8 : Int),
  (v_7 = smoothV a b c) →
  (e_8 = smoothE a b c) →
  ((0 : Int) ≤ v_7 ∧ v_7 ≤ (65536 : Int)) →
  (e_8 = (0 : Int) ∨ e_8 = (2 : Int)) →
  (k (AV.bool (bif v_1 == v_7 then e_2 == e_8 else false)) [] []) := by
  refine ⟨by exact ⟨by assumption, by assumption⟩, ?_⟩ -- (-9223372036854775808 : Int) ≤ a ∧ a ≤ (9223372036854775807 : Int)
  refine ⟨by exact ⟨by assumption, by assumption⟩, ?_⟩ -- (-9223372036854775808 : Int) ≤ b ∧ b ≤ (9223372036854775807 : Int)
  refine ⟨by exact ⟨by assumption, by assumption⟩, ?_⟩ -- (-9223372036854775808 : Int) ≤ c ∧ c ≤ (9223372036854775807 : Int)
  intro v_1
  intro e_2
  intro h1 -- v_1 = smoothV a b c
  intro h2 -- e_2 = smoothE a b c
  intro ⟨a3, b3⟩ -- (0 : Int) ≤ v_1 ∧ v_1 ≤ (65536 : Int)
  intro h4 -- e_2 = (0 : Int) ∨ e_2 = (2 : Int)
  refine ⟨by exact ⟨by assumption, by assumption⟩, ?_⟩ -- (-9223372036854775808 : Int) ≤ a ∧ a ≤ (9223372036854775807 : Int)
  refine ⟨by exact ⟨by assumption, by assumption⟩, ?_⟩ -- (-9223372036854775808 : Int) ≤ b ∧ b ≤ (9223372036854775807 : Int)
  refine ⟨by exact ⟨by assumption, by assumption⟩, ?_⟩ -- (-9223372036854775808 : Int) ≤ c ∧ c ≤ (9223372036854775807 : Int)
  intro v_7
  intro e_8
  intro h5 -- v_7 = smoothV a b c
  intro h6 -- e_8 = smoothE a b c
  intro ⟨a7, b7⟩ -- (0 : Int) ≤ v_7 ∧ v_7 ≤ (65536 : Int)
  intro h8 -- e_8 = (0 : Int) ∨ e_8 = (2 : Int)
  exact by exact k_true hk (by simp only [*]; simp) -- k (AV.bool (bif v_1 == v_7 then e_2 == e_8 else false)) [] []

theorem loadSmooths_ok : Holds Try.prog 5 lawI3 := by
  refine fn_sound (env := mkEnv T5) (tab_ok T5_ok) Try.func5 Try.call5 fun args k h => ?_
  match args, h with
  | [.int .i64 a, .int .i64 b, .int .i64 c], h => exact ⟨by kernel_rfl, fun _ _ => none, fun _ _ => none, .cast (by kernel_rfl) (loadSmooths_vc a h.1.1 h.1.2 b h.2.1.1 h.2.1.2 c h.2.2.1.1 h.2.2.1.2 k h.2.2.2)⟩
set_option maxHeartbeats 2000000 in
theorem loadBetween_vc (a : Int) (a0 : (-9223372036854775808 : Int) ≤ a) (a1 : a ≤ (9223372036854775807 : Int)) (b : Int) (b0 : (-9223372036854775808 : Int) ≤ b) (b1 : b ≤ (9223372036854775807 : Int)) (c : Int) (c0 : (-9223372036854775808 : Int) ≤ c) (c1 : c ≤ (9223372036854775807 : Int)) (k : AV → List (Option Blk) → List Blk → Prop) (hk : k (AV.bool true) [] []) :
  (
   ((-9223372036854775808 : Int) ≤ a) ∧
   (a ≤ (9223372036854775807 : Int))) ∧
  (
   ((-9223372036854775808 : Int) ≤ b) ∧
   (b ≤ (9223372036854775807 : Int))) ∧
  (
   ((-9223372036854775808 : Int) ≤ c) ∧
   (c ≤ (9223372036854775807 : Int))) ∧
  ∀ (v_1 : Int),
  ∀ (e_2 : Int),
  (v_1 = smoothV a b c) →
  (e_2 = smoothE a b c) →
  ((0 : Int) ≤ v_1 ∧ v_1 ≤ (65536 : Int)) →
  (e_2 = (0 : Int) ∨ e_2 = (2 : Int)) →
  br (bif e_2 != (0 : Int) then true else !true)
   ((k (AV.bool (bif true then v_1 == (0 : Int) else false)) [] []))
   ((
     ((-9223372036854775808 : Int) ≤ a) ∧
     (a ≤ (9223372036854775807 : Int))) ∧
    (
     ((-9223372036854775808 : Int) ≤ b) ∧
     (b ≤ (9223372036854775807 : Int))) ∧
    (
     ((-9223372036854775808 : Int) ≤ (0 : Int)) ∧
     ((0 : Int) ≤ (9223372036854775807 : Int))) ∧
    ∀ (v_7 : Int),
    ∀ (e_8 : Int),
    (v_7 = smoothV a b (0 : Int)) →
    (e_8 = smoothE a b (0 : Int)) →
    ((0 : Int) ≤ v_7 ∧ v_7 ≤ (65536 : Int)) →
    (e_8 = (0 : Int) ∨ e_8 = (2 : Int)) →
    (
     ((-9223372036854775808 : Int) ≤ a) ∧
     (a ≤ (9223372036854775807 : Int))) ∧
    (
     ((-9223372036854775808 : Int) ≤ b) ∧
     (b ≤ (9223372036854775807 : Int))) ∧
    (
     ((-9223372036854775808 : Int) ≤ (65536 : Int)) ∧
     ((65536 : Int) ≤ (9223372036854775807 : Int))) ∧
    ∀ (v_13 : Int),
    ∀ (e_14 : Int),
    (v_13 = smoothV a b (65536 : Int)) →
    (e_14 = smoothE a b (65536 : Int)) →
    ((0 : Int) ≤ v_13 ∧ v_13 ≤ (65536 : Int)) →
    (e_14 = (0 : Int) ∨ e_14 = (2 : Int)) →
    ∀ (n19 : Int),
    (n19 = min a b) →
    ((-9223372036854775808 : Int) ≤ n19 ∧ n19 ≤ (9223372036854775807 : Int)) →
    ∀ (n22 : Int),
    (n22 = max a b) →
    (k (AV.bool (bif bif bif bif bif decide (v_1 ≥ n19) then decide (v_1 ≤ n22) else false then e_8 == (0 : Int) else false then e_14 == (0 : Int) else false then v_7 == a else false then v_13 == b else false)) [] [])) := by
  refine ⟨by exact ⟨by assumption, by assumption⟩, ?_⟩ -- (-9223372036854775808 : Int) ≤ a ∧ a ≤ (9223372036854775807 : Int)
  refine ⟨by exact ⟨by assumption, by assumption⟩, ?_⟩ -- (-9223372036854775808 : Int) ≤ b ∧ b ≤ (9223372036854775807 : Int)
  refine ⟨by exact ⟨by assumption, by assumption⟩, ?_⟩ -- (-9223372036854775808 : Int) ≤ c ∧ c ≤ (9223372036854775807 : Int)
  intro v_1
  intro e_2
  intro h1 -- v_1 = smoothV a b c
  intro h2 -- e_2 = smoothE a b c
  intro ⟨a3, b3⟩ -- (0 : Int) ≤ v_1 ∧ v_1 ≤ (65536 : Int)
  intro h4 -- e_2 = (0 : Int) ∨ e_2 = (2 : Int)
  refine br_intro (fun c5 => ?_) (fun c5 => ?_) -- bif e_2 != (0 : Int) then true else !true
  · -- yes
    simp at c5 -- ¬e_2 = (0 : Int)
    -- k (AV.bool (bif true then v_1 == (0 : Int) else false)) [] []
    exact k_true hk (by simp; rw [h1]; exact smoothV_zero (by rw [← h2]; exact c5))
  · -- no
    simp at c5 -- e_2 = (0 : Int)
    refine ⟨by exact ⟨by assumption, by assumption⟩, ?_⟩ -- (-9223372036854775808 : Int) ≤ a ∧ a ≤ (9223372036854775807 : Int)
    refine ⟨by exact ⟨by assumption, by assumption⟩, ?_⟩ -- (-9223372036854775808 : Int) ≤ b ∧ b ≤ (9223372036854775807 : Int)
    refine ⟨by omega, ?_⟩ -- (-9223372036854775808 : Int) ≤ (0 : Int) ∧ (0 : Int) ≤ (9223372036854775807 : Int)
    intro v_7
    intro e_8
    intro h6 -- v_7 = smoothV a b (0 : Int)
    intro h7 -- e_8 = smoothE a b (0 : Int)
    intro ⟨a8, b8⟩ -- (0 : Int) ≤ v_7 ∧ v_7 ≤ (65536 : Int)
    intro h9 -- e_8 = (0 : Int) ∨ e_8 = (2 : Int)
    refine ⟨by exact ⟨by assumption, by assumption⟩, ?_⟩ -- (-9223372036854775808 : Int) ≤ a ∧ a ≤ (9223372036854775807 : Int)
    refine ⟨by exact ⟨by assumption, by assumption⟩, ?_⟩ -- (-9223372036854775808 : Int) ≤ b ∧ b ≤ (9223372036854775807 : Int)
    refine ⟨by omega, ?_⟩ -- (-9223372036854775808 : Int) ≤ (65536 : Int) ∧ (65536 : Int) ≤ (9223372036854775807 : Int)
    intro v_13
    intro e_14
    intro h10 -- v_13 = smoothV a b (65536 : Int)
    intro h11 -- e_14 = smoothE a b (65536 : Int)
    intro ⟨a12, b12⟩ -- (0 : Int) ≤ v_13 ∧ v_13 ≤ (65536 : Int)
    intro h13 -- e_14 = (0 : Int) ∨ e_14 = (2 : Int)
    intro n19
    intro q19 -- n19 = min a b
    intro ⟨l19, u19⟩ -- (-9223372036854775808 : Int) ≤ n19 ∧ n19 ≤ (9223372036854775807 : Int)
    intro n22
    intro q22 -- n22 = max a b
    -- k (AV.bool (bif bif bif bif bif decide (v_1 ≥ n19) then decide (v_1 ≤ n22) else false then e_8 == (0 : Int) else false then e_14 == (0 : Int) else false then v_7 == a else false then v_13 == b else false)) [] []
    have sa := smooth_all (a := a) (b := b) (c := c) (by rw [← h2]; exact c5)
    rw [← h1, ← h6, ← h7, ← h10, ← h11] at sa
    exact k_true hk (by simp; omega)

theorem loadBetween_ok : Holds Try.prog 6 lawI3 := by
  refine fn_sound (env := mkEnv T5) (tab_ok T5_ok) Try.func6 Try.call6 fun args k h => ?_
  match args, h with
  | [.int .i64 a, .int .i64 b, .int .i64 c], h => exact ⟨by kernel_rfl, fun _ _ => none, fun _ _ => none, .cast (by kernel_rfl) (loadBetween_vc a h.1.1 h.1.2 b h.2.1.1 h.2.1.2 c h.2.2.1.1 h.2.2.1.2 k h.2.2.2)⟩
set_option maxHeartbeats 2000000 in
theorem loadTells_vc (green : Int) (green0 : (-9223372036854775808 : Int) ≤ green) (green1 : green ≤ (9223372036854775807 : Int)) (busy : Int) (busy0 : (-9223372036854775808 : Int) ≤ busy) (busy1 : busy ≤ (9223372036854775807 : Int)) (came : Int) (came0 : (-9223372036854775808 : Int) ≤ came) (came1 : came ≤ (9223372036854775807 : Int)) (headway : Int) (headway0 : (-9223372036854775808 : Int) ≤ headway) (headway1 : headway ≤ (9223372036854775807 : Int)) (xs : List Int) (k : AV → List (Option Blk) → List Blk → Prop) (hk : k (AV.bool true) [] []) :
  ∀ (n1 : Int),
  (n1 = (↑xs.length : Int)) →
  ((-9223372036854775808 : Int) ≤ n1 ∧ n1 ≤ (9223372036854775807 : Int)) →
  br (decide (n1 > (1100 : Int)))
   ((k (AV.bool true) [] []))
   ((xs.length * (8 : Nat) ≤ (140737488355328 : Nat)) ∧
    ∀ (z4 : List Int),
    (z4 = xs) →
    (
     ((-9223372036854775808 : Int) ≤ green) ∧
     (green ≤ (9223372036854775807 : Int))) ∧
    (
     ((-9223372036854775808 : Int) ≤ busy) ∧
     (busy ≤ (9223372036854775807 : Int))) ∧
    (
     ((-9223372036854775808 : Int) ≤ came) ∧
     (came ≤ (9223372036854775807 : Int))) ∧
    (
     ((-9223372036854775808 : Int) ≤ headway) ∧
     (headway ≤ (9223372036854775807 : Int))) ∧
    ∀ (v_6 : Int),
    ∀ (e_7 : Int),
    (v_6 = loadV green busy came headway) →
    (e_7 = loadE green busy came headway) →
    ((0 : Int) ≤ v_6 ∧ v_6 ≤ (65536 : Int)) →
    (e_7 = (0 : Int) ∨ e_7 = (2 : Int)) →
    (
     ((-9223372036854775808 : Int) ≤ green) ∧
     (green ≤ (9223372036854775807 : Int))) ∧
    (
     ((-9223372036854775808 : Int) ≤ busy) ∧
     (busy ≤ (9223372036854775807 : Int))) ∧
    (
     ((-9223372036854775808 : Int) ≤ came) ∧
     (came ≤ (9223372036854775807 : Int))) ∧
    (
     ((-9223372036854775808 : Int) ≤ headway) ∧
     (headway ≤ (9223372036854775807 : Int))) ∧
    ∀ (v_12 : Int),
    ∀ (e_13 : Int),
    (v_12 = loadV green busy came headway) →
    (e_13 = loadE green busy came headway) →
    ((0 : Int) ≤ v_12 ∧ v_12 ≤ (65536 : Int)) →
    (e_13 = (0 : Int) ∨ e_13 = (2 : Int)) →
    br (bif bif bif bif v_6 != v_12 then true else e_7 != e_13 then true else (hi (List.take xs.length (List.drop (0 : Nat) z4))).fst != (hi xs).fst then true else (hi (List.take xs.length (List.drop (0 : Nat) z4))).snd.fst != (hi xs).snd.fst then true else (hi (List.take xs.length (List.drop (0 : Nat) z4))).snd.snd != (hi xs).snd.snd)
     ((k (AV.bool false) [] []))
     ((
       ∃ (v : Int),
       (xs = xs) ∧
       ((0 : Nat) = (0 : Nat)) ∧
       (xs.length = xs.length) ∧
       ((0 : Int) = v) ∧
       (z4 = xs) ∧
       ((0 : Int) ≤ v) ∧
       (v ≤ (↑xs.length : Int))) ∧
      ∀ (v_18 : Int),
      ((0 : Int) ≤ v_18 ∧ v_18 ≤ (↑xs.length : Int)) →
      ∀ (n20 : Int),
      (n20 = (↑xs.length : Int)) →
      ((-9223372036854775808 : Int) ≤ n20 ∧ n20 ≤ (9223372036854775807 : Int)) →
      br (decide (v_18 < n20))
       (((0 : Int) ≤ v_18) ∧
        (v_18 < (↑xs.length : Int)) ∧
        ((0 : Nat) + v_18.toNat < xs.length) ∧
        ∀ (n23 : Int),
        (n23 = xs.getD ((0 : Nat) + v_18.toNat) (0 : Int)) →
        ((-9223372036854775808 : Int) ≤ n23 ∧ n23 ≤ (9223372036854775807 : Int)) →
        ((0 : Int) ≤ v_18) ∧
        (v_18 < (↑xs.length : Int)) ∧
        ∀ (n26 : Int),
        (n26 = xs.getD v_18.toNat (0 : Int)) →
        ((-9223372036854775808 : Int) ≤ n26 ∧ n26 ≤ (9223372036854775807 : Int)) →
        br (n23 != n26)
         ((k (AV.bool false) [] []))
         (∀ (n29 : Int),
          (n29 = IntKind.i64.wrap (v_18 + (1 : Int))) →
          ((-9223372036854775808 : Int) ≤ n29 ∧ n29 ≤ (9223372036854775807 : Int)) →
          ∃ (v' : Int),
          (xs = xs) ∧
          ((0 : Nat) = (0 : Nat)) ∧
          (xs.length = xs.length) ∧
          (n29 = v') ∧
          (xs = xs) ∧
          (
           ((0 : Int) ≤ v') ∧
           (v' ≤ (↑xs.length : Int))) ∧
          (xs.length - v'.toNat < xs.length - v_18.toNat)))
       ((k (AV.bool true) [] [])))) := by
  intro n1
  intro q1 -- n1 = (↑xs.length : Int)
  intro ⟨l1, u1⟩ -- (-9223372036854775808 : Int) ≤ n1 ∧ n1 ≤ (9223372036854775807 : Int)
  refine brd (fun c1 => ?_) (fun c1 => ?_) -- decide (n1 > (1100 : Int))
  · -- yes
    exact by exact hk -- k (AV.bool true) [] []
  · -- no
    refine ⟨by omega, ?_⟩ -- xs.length * (8 : Nat) ≤ (140737488355328 : Nat)
    intro z4
    intro qz4 -- z4 = xs
    refine ⟨by exact ⟨by assumption, by assumption⟩, ?_⟩ -- (-9223372036854775808 : Int) ≤ green ∧ green ≤ (9223372036854775807 : Int)
    refine ⟨by exact ⟨by assumption, by assumption⟩, ?_⟩ -- (-9223372036854775808 : Int) ≤ busy ∧ busy ≤ (9223372036854775807 : Int)
    refine ⟨by exact ⟨by assumption, by assumption⟩, ?_⟩ -- (-9223372036854775808 : Int) ≤ came ∧ came ≤ (9223372036854775807 : Int)
    refine ⟨by exact ⟨by assumption, by assumption⟩, ?_⟩ -- (-9223372036854775808 : Int) ≤ headway ∧ headway ≤ (9223372036854775807 : Int)
    intro v_6
    intro e_7
    intro h2 -- v_6 = loadV green busy came headway
    intro h3 -- e_7 = loadE green busy came headway
    intro ⟨a4, b4⟩ -- (0 : Int) ≤ v_6 ∧ v_6 ≤ (65536 : Int)
    intro h5 -- e_7 = (0 : Int) ∨ e_7 = (2 : Int)
    refine ⟨by exact ⟨by assumption, by assumption⟩, ?_⟩ -- (-9223372036854775808 : Int) ≤ green ∧ green ≤ (9223372036854775807 : Int)
    refine ⟨by exact ⟨by assumption, by assumption⟩, ?_⟩ -- (-9223372036854775808 : Int) ≤ busy ∧ busy ≤ (9223372036854775807 : Int)
    refine ⟨by exact ⟨by assumption, by assumption⟩, ?_⟩ -- (-9223372036854775808 : Int) ≤ came ∧ came ≤ (9223372036854775807 : Int)
    refine ⟨by exact ⟨by assumption, by assumption⟩, ?_⟩ -- (-9223372036854775808 : Int) ≤ headway ∧ headway ≤ (9223372036854775807 : Int)
    intro v_12
    intro e_13
    intro h6 -- v_12 = loadV green busy came headway
    intro h7 -- e_13 = loadE green busy came headway
    intro ⟨a8, b8⟩ -- (0 : Int) ≤ v_12 ∧ v_12 ≤ (65536 : Int)
    intro h9 -- e_13 = (0 : Int) ∨ e_13 = (2 : Int)
    refine br_intro (fun c10 => ?_) (fun c10 => ?_) -- bif bif bif bif v_6 != v_12 then true else e_7 != e_13 then true else (hi (List.take xs.length (List.drop (0 : Nat) z4))).fst != (hi xs).fst then true else (hi (List.take xs.length (List.drop (0 : Nat) z4))).snd.fst != (hi xs).snd.fst then true else (hi (List.take xs.length (List.drop (0 : Nat) z4))).snd.snd != (hi xs).snd.snd
    · -- yes
      simp at c10 -- (((¬v_6 = v_12 ∨ ¬e_7 = e_13) ∨ ¬(hi (List.take xs.length z4)).fst = (hi xs).fst) ∨ ¬(hi (List.take xs.length z4)).snd.fst = (hi xs).snd.fst) ∨ ¬(hi (List.take xs.length z4)).snd.snd = (hi xs).snd.snd
      -- k (AV.bool false) [] []
      exfalso; rw [qz4, List.take_length] at c10; omega
    · -- no
      simp at c10 -- (((v_6 = v_12 ∧ e_7 = e_13) ∧ (hi (List.take xs.length z4)).fst = (hi xs).fst) ∧ (hi (List.take xs.length z4)).snd.fst = (hi xs).snd.fst) ∧ (hi (List.take xs.length z4)).snd.snd = (hi xs).snd.snd
      refine ⟨?_, ?_⟩
      · -- left
        refine ⟨(0 : Int), ?_⟩
        refine ⟨by first | with_reducible rfl | rfl, ?_⟩ -- xs = xs
        refine ⟨by first | with_reducible rfl | rfl, ?_⟩ -- (0 : Nat) = (0 : Nat)
        refine ⟨by first | with_reducible rfl | rfl, ?_⟩ -- xs.length = xs.length
        refine ⟨by first | with_reducible rfl | rfl, ?_⟩ -- (0 : Int) = (0 : Int)
        refine ⟨by show z4 = xs; assumption, ?_⟩ -- z4 = xs
        refine ⟨by show (0 : Int) ≤ (0 : Int); omega, ?_⟩ -- (0 : Int) ≤ (0 : Int)
        exact by show (0 : Int) ≤ (↑xs.length : Int); omega -- (0 : Int) ≤ (↑xs.length : Int)
      intro v_18
      intro ⟨a11, b11⟩ -- (0 : Int) ≤ v_18 ∧ v_18 ≤ (↑xs.length : Int)
      intro n20
      intro q20 -- n20 = (↑xs.length : Int)
      intro ⟨l20, u20⟩ -- (-9223372036854775808 : Int) ≤ n20 ∧ n20 ≤ (9223372036854775807 : Int)
      refine brd (fun c12 => ?_) (fun c12 => ?_) -- decide (v_18 < n20)
      · -- yes
        refine ⟨by assumption, ?_⟩ -- (0 : Int) ≤ v_18
        refine ⟨by omega, ?_⟩ -- v_18 < (↑xs.length : Int)
        refine ⟨by omega, ?_⟩ -- (0 : Nat) + v_18.toNat < xs.length
        intro n23
        intro q23 -- n23 = xs.getD ((0 : Nat) + v_18.toNat) (0 : Int)
        intro ⟨l23, u23⟩ -- (-9223372036854775808 : Int) ≤ n23 ∧ n23 ≤ (9223372036854775807 : Int)
        refine ⟨by assumption, ?_⟩ -- (0 : Int) ≤ v_18
        refine ⟨by omega, ?_⟩ -- v_18 < (↑xs.length : Int)
        intro n26
        intro q26 -- n26 = xs.getD v_18.toNat (0 : Int)
        intro ⟨l26, u26⟩ -- (-9223372036854775808 : Int) ≤ n26 ∧ n26 ≤ (9223372036854775807 : Int)
        refine br_intro (fun c13 => ?_) (fun c13 => ?_) -- n23 != n26
        · -- yes
          simp at c13 -- ¬n23 = n26
          -- k (AV.bool false) [] []
          rw [Nat.zero_add] at q23; omega
        · -- no
          simp at c13 -- n23 = n26
          intro n29
          intro q29 -- n29 = IntKind.i64.wrap (v_18 + (1 : Int))
          rw [IntKind.wrap_i64] at q29
          intro ⟨l29, u29⟩ -- (-9223372036854775808 : Int) ≤ n29 ∧ n29 ≤ (9223372036854775807 : Int)
          refine ⟨n29, ?_⟩
          refine ⟨by first | with_reducible rfl | rfl, ?_⟩ -- xs = xs
          refine ⟨by first | with_reducible rfl | rfl, ?_⟩ -- (0 : Nat) = (0 : Nat)
          refine ⟨by first | with_reducible rfl | rfl, ?_⟩ -- xs.length = xs.length
          refine ⟨by first | with_reducible rfl | rfl, ?_⟩ -- n29 = n29
          refine ⟨by first | with_reducible rfl | rfl, ?_⟩ -- xs = xs
          refine ⟨by omega, ?_⟩ -- (0 : Int) ≤ n29 ∧ n29 ≤ (↑xs.length : Int)
          exact by show xs.length - n29.toNat < xs.length - v_18.toNat; omega -- xs.length - n29.toNat < xs.length - v_18.toNat
      · -- no
        exact by exact hk -- k (AV.bool true) [] []

theorem loadTells_ok : Holds Try.prog 4 lawTells := by
  refine fn_sound (env := mkEnv T5) (tab_ok T5_ok) Try.func4 Try.call4 fun args k h => ?_
  match args, h with
  | [.int .i64 green, .int .i64 busy, .int .i64 came, .int .i64 headway, .sl 1 xs], h => exact ⟨by kernel_rfl, tellsLoops xs, fun _ _ => none, .cast (by kernel_rfl) (loadTells_vc green h.1.1 h.1.2 busy h.2.1.1 h.2.1.2 came h.2.2.1.1 h.2.2.1.2 headway h.2.2.2.1.1 h.2.2.2.1.2 xs k h.2.2.2.2)⟩
end Go.Proofs.Ytmlfpijallccgaa
namespace Go.Proofs.Ytmlfpijallccgaa
open Go.ChangeShapes Go.WideShapes Go.ChangeAt Go.RowKit Go.Eng
set_option linter.unusedVariables false

theorem ownA : ownKnob Try.prog.godebug = none := by kernel_rfl
theorem laidA : laidOutB Try.prog = true := by kernel_rfl

set_option maxRecDepth 100000 in
theorem loadGrowsLifted (os : Os) (started : os.Started) (H : Type) (enc : TypeId × Value → H) :
    ReturnsInHanded {} Try.checked os 3 .any (Rows.loadGrowsSpec.pre6 enc Try.prog Try.f3 Rows.loadGrowsRow.domain false) (Rows.loadGrowsSpec.post enc Try.prog Try.f3 false true false false) := by
  refine returnsInHanded_of_change (C := Try.checked) ownA started (by kernel_rfl) Try.func3
    (ChangeSpec.witness6 (enc := enc) (C := Try.checked) false ⟨#[], #[.int .i64 0, .int .i64 0, .int .i64 0, .int .i64 0, .int .i64 0, .int .i64 0, .int .i64 0], []⟩ 8 (by kernel_rfl) (by kernel_rfl) (by kernel_rfl) (by kernel_rfl)) ?_
  intro W base args ds gs before hval0 hW hcnd _
  have hval : ∀ (j : Nat) t v, Try.f3.params[j]? = some t → args[j]? = some v → Value.okWide Try.prog W .any base t v := hval0
  have hW' := hW
  obtain ⟨p, q, hA0, hV, rfl, hfz, hnd⟩ := hW
  have hA : DataW.TrodAll enc Try.prog W 0 (fun _ => true) true Try.f3.params.toList args.toList ds p := hA0
  rw [Try.params3] at hA hval
  obtain ⟨v0, vs0, d0, ds0, p0, q0, hargs, rfl, rfl, h0, r0⟩ := trodAll_cons hA
  obtain ⟨v1, vs1, d1, ds1, p1, q1, rfl, rfl, rfl, h1, r1⟩ := trodAll_cons r0
  obtain ⟨v2, vs2, d2, ds2, p2, q2, rfl, rfl, rfl, h2, r2⟩ := trodAll_cons r1
  obtain ⟨v3, vs3, d3, ds3, p3, q3, rfl, rfl, rfl, h3, r3⟩ := trodAll_cons r2
  obtain ⟨v4, vs4, d4, ds4, p4, q4, rfl, rfl, rfl, h4, r4⟩ := trodAll_cons r3
  obtain ⟨v5, vs5, d5, ds5, p5, q5, rfl, rfl, rfl, h5, r5⟩ := trodAll_cons r4
  obtain ⟨v6, vs6, d6, ds6, p6, q6, rfl, rfl, rfl, h6, r6⟩ := trodAll_cons r5
  obtain ⟨rfl, rfl, rfl⟩ := trodAll_nil r6
  obtain rfl : args = #[v0, v1, v2, v3, v4, v5, v6] := by cases args; simp_all
  obtain ⟨rfl, rfl⟩ := trodVars_none hV
  obtain ⟨a0, rfl, rfl, rfl, w0⟩ := open_int Try.underlying3 (hval 0 3 v0 rfl rfl) h0
  obtain ⟨a1, rfl, rfl, rfl, w1⟩ := open_int Try.underlying3 (hval 1 3 v1 rfl rfl) h1
  obtain ⟨a2, rfl, rfl, rfl, w2⟩ := open_int Try.underlying3 (hval 2 3 v2 rfl rfl) h2
  obtain ⟨a3, rfl, rfl, rfl, w3⟩ := open_int Try.underlying3 (hval 3 3 v3 rfl rfl) h3
  obtain ⟨a4, rfl, rfl, rfl, w4⟩ := open_int Try.underlying3 (hval 4 3 v4 rfl rfl) h4
  obtain ⟨a5, rfl, rfl, rfl, w5⟩ := open_int Try.underlying3 (hval 5 3 v5 rfl rfl) h5
  obtain ⟨a6, rfl, rfl, rfl, w6⟩ := open_int Try.underlying3 (hval 6 3 v6 rfl rfl) h6
  clear hA0 hval0
  have hk0 : kwf .i64 a0 := by simpa [Lit.wf, kwf] using w0
  have hk1 : kwf .i64 a1 := by simpa [Lit.wf, kwf] using w1
  have hk2 : kwf .i64 a2 := by simpa [Lit.wf, kwf] using w2
  have hk3 : kwf .i64 a3 := by simpa [Lit.wf, kwf] using w3
  have hk4 : kwf .i64 a4 := by simpa [Lit.wf, kwf] using w4
  have hk5 : kwf .i64 a5 := by simpa [Lit.wf, kwf] using w5
  have hk6 : kwf .i64 a6 := by simpa [Lit.wf, kwf] using w6
  -- PRE: what the spec asks (['hk0', 'hk1', 'hk2', 'hk3', 'hk4', 'hk5', 'hk6']), then rfl
  refine (calls_of_holds loadGrows_ok Try.call3 (w := W) (vals := #[.int .i64 a0, .int .i64 a1, .int .i64 a2, .int .i64 a3, .int .i64 a4, .int .i64 a5, .int .i64 a6]) (args := [.int .i64 a0, .int .i64 a1, .int .i64 a2, .int .i64 a3, .int .i64 a4, .int .i64 a5, .int .i64 a6]) rfl (fun j v hj => ?_) ⟨hk0, hk1, hk2, hk3, hk4, hk5, hk6, rfl⟩).mono fun e W' ⟨he, bel⟩ => ?_
  · rcases j with _ | _ | _ | _ | _ | _ | _ | j
    · simp at hj; subst hj; exact .int hk0
    · simp at hj; subst hj; exact .int hk1
    · simp at hj; subst hj; exact .int hk2
    · simp at hj; subst hj; exact .int hk3
    · simp at hj; subst hj; exact .int hk4
    · simp at hj; subst hj; exact .int hk5
    · simp at hj; subst hj; exact .int hk6
    · simp at hj
  subst he
  exact ⟨_, rfl, _, _, _, [], _, [], hW', trodAll_mk1 (shut_bool Try.underlying4 _), (trodAll_cons_mk (shut_int Try.underlying3 w0) (trodAll_cons_mk (shut_int Try.underlying3 w1) (trodAll_cons_mk (shut_int Try.underlying3 w2) (trodAll_cons_mk (shut_int Try.underlying3 w3) (trodAll_cons_mk (shut_int Try.underlying3 w4) (trodAll_cons_mk (shut_int Try.underlying3 w5) (trodAll_cons_mk (shut_int Try.underlying3 w6) trodAll_mk0))))))), rfl, bel.frame _, fun h => by cases h⟩

theorem loadGrows_said : Rows.LoadGrowsSaid :=
  OpenClaim.holds_of_wide 3 Try.f3 rfl rfl rfl rfl rfl rfl rfl ⟨rfl, rfl, rfl, rfl, rfl⟩ rfl rfl rfl rfl rfl (by kernel_rfl) Try.func3 (by kernel_rfl)
    (of_decide_eq_true (by kernel_rfl)) (by unfold Func.isWrapper; first | (rw [if_pos (by decide +kernel)]; kernel_rfl) | (rw [if_neg (by decide +kernel)]; exact ⟨rfl, rfl⟩))
    (fun os started H enc _ => loadGrowsLifted os started H enc)
#print axioms loadGrows_said
end Go.Proofs.Ytmlfpijallccgaa

namespace Go.Proofs.Ytmlfpijallccgaa
open Go.ChangeShapes Go.WideShapes Go.ChangeAt Go.RowKit Go.Eng
set_option linter.unusedVariables false

theorem ownB : ownKnob Try.prog.godebug = none := by kernel_rfl
theorem laidB : laidOutB Try.prog = true := by kernel_rfl

set_option maxRecDepth 100000 in
theorem loadSmoothsLifted (os : Os) (started : os.Started) (H : Type) (enc : TypeId × Value → H) :
    ReturnsInHanded {} Try.checked os 5 .any (Rows.loadSmoothsSpec.pre6 enc Try.prog Try.f5 Rows.loadSmoothsRow.domain false) (Rows.loadSmoothsSpec.post enc Try.prog Try.f5 false true false false) := by
  refine returnsInHanded_of_change (C := Try.checked) ownB started (by kernel_rfl) Try.func5
    (ChangeSpec.witness6 (enc := enc) (C := Try.checked) false ⟨#[], #[.int .i64 0, .int .i64 0, .int .i64 0], []⟩ 8 (by kernel_rfl) (by kernel_rfl) (by kernel_rfl) (by kernel_rfl)) ?_
  intro W base args ds gs before hval0 hW hcnd _
  have hval : ∀ (j : Nat) t v, Try.f5.params[j]? = some t → args[j]? = some v → Value.okWide Try.prog W .any base t v := hval0
  have hW' := hW
  obtain ⟨p, q, hA0, hV, rfl, hfz, hnd⟩ := hW
  have hA : DataW.TrodAll enc Try.prog W 0 (fun _ => true) true Try.f5.params.toList args.toList ds p := hA0
  rw [Try.params5] at hA hval
  obtain ⟨v0, vs0, d0, ds0, p0, q0, hargs, rfl, rfl, h0, r0⟩ := trodAll_cons hA
  obtain ⟨v1, vs1, d1, ds1, p1, q1, rfl, rfl, rfl, h1, r1⟩ := trodAll_cons r0
  obtain ⟨v2, vs2, d2, ds2, p2, q2, rfl, rfl, rfl, h2, r2⟩ := trodAll_cons r1
  obtain ⟨rfl, rfl, rfl⟩ := trodAll_nil r2
  obtain rfl : args = #[v0, v1, v2] := by cases args; simp_all
  obtain ⟨rfl, rfl⟩ := trodVars_none hV
  obtain ⟨a0, rfl, rfl, rfl, w0⟩ := open_int Try.underlying2 (hval 0 2 v0 rfl rfl) h0
  obtain ⟨a1, rfl, rfl, rfl, w1⟩ := open_int Try.underlying2 (hval 1 2 v1 rfl rfl) h1
  obtain ⟨a2, rfl, rfl, rfl, w2⟩ := open_int Try.underlying2 (hval 2 2 v2 rfl rfl) h2
  clear hA0 hval0
  have hk0 : kwf .i64 a0 := by simpa [Lit.wf, kwf] using w0
  have hk1 : kwf .i64 a1 := by simpa [Lit.wf, kwf] using w1
  have hk2 : kwf .i64 a2 := by simpa [Lit.wf, kwf] using w2
  -- PRE: what the spec asks (['hk0', 'hk1', 'hk2']), then rfl
  refine (calls_of_holds loadSmooths_ok Try.call5 (w := W) (vals := #[.int .i64 a0, .int .i64 a1, .int .i64 a2]) (args := [.int .i64 a0, .int .i64 a1, .int .i64 a2]) rfl (fun j v hj => ?_) ⟨hk0, hk1, hk2, rfl⟩).mono fun e W' ⟨he, bel⟩ => ?_
  · rcases j with _ | _ | _ | j
    · simp at hj; subst hj; exact .int hk0
    · simp at hj; subst hj; exact .int hk1
    · simp at hj; subst hj; exact .int hk2
    · simp at hj
  subst he
  exact ⟨_, rfl, _, _, _, [], _, [], hW', trodAll_mk1 (shut_bool Try.underlying4 _), (trodAll_cons_mk (shut_int Try.underlying2 w0) (trodAll_cons_mk (shut_int Try.underlying2 w1) (trodAll_cons_mk (shut_int Try.underlying2 w2) trodAll_mk0))), rfl, bel.frame _, fun h => by cases h⟩

theorem loadSmooths_said : Rows.LoadSmoothsSaid :=
  OpenClaim.holds_of_wide 5 Try.f5 rfl rfl rfl rfl rfl rfl rfl ⟨rfl, rfl, rfl, rfl, rfl⟩ rfl rfl rfl rfl rfl (by kernel_rfl) Try.func5 (by kernel_rfl)
    (of_decide_eq_true (by kernel_rfl)) (by unfold Func.isWrapper; first | (rw [if_pos (by decide +kernel)]; kernel_rfl) | (rw [if_neg (by decide +kernel)]; exact ⟨rfl, rfl⟩))
    (fun os started H enc _ => loadSmoothsLifted os started H enc)
#print axioms loadSmooths_said
end Go.Proofs.Ytmlfpijallccgaa

namespace Go.Proofs.Ytmlfpijallccgaa
open Go.ChangeShapes Go.WideShapes Go.ChangeAt Go.RowKit Go.Eng
set_option linter.unusedVariables false

theorem ownC : ownKnob Try.prog.godebug = none := by kernel_rfl
theorem laidC : laidOutB Try.prog = true := by kernel_rfl

set_option maxRecDepth 100000 in
theorem loadBetweenLifted (os : Os) (started : os.Started) (H : Type) (enc : TypeId × Value → H) :
    ReturnsInHanded {} Try.checked os 6 .any (Rows.loadBetweenSpec.pre6 enc Try.prog Try.f6 Rows.loadBetweenRow.domain false) (Rows.loadBetweenSpec.post enc Try.prog Try.f6 false true false false) := by
  refine returnsInHanded_of_change (C := Try.checked) ownC started (by kernel_rfl) Try.func6
    (ChangeSpec.witness6 (enc := enc) (C := Try.checked) false ⟨#[], #[.int .i64 0, .int .i64 0, .int .i64 0], []⟩ 8 (by kernel_rfl) (by kernel_rfl) (by kernel_rfl) (by kernel_rfl)) ?_
  intro W base args ds gs before hval0 hW hcnd _
  have hval : ∀ (j : Nat) t v, Try.f6.params[j]? = some t → args[j]? = some v → Value.okWide Try.prog W .any base t v := hval0
  have hW' := hW
  obtain ⟨p, q, hA0, hV, rfl, hfz, hnd⟩ := hW
  have hA : DataW.TrodAll enc Try.prog W 0 (fun _ => true) true Try.f6.params.toList args.toList ds p := hA0
  rw [Try.params6] at hA hval
  obtain ⟨v0, vs0, d0, ds0, p0, q0, hargs, rfl, rfl, h0, r0⟩ := trodAll_cons hA
  obtain ⟨v1, vs1, d1, ds1, p1, q1, rfl, rfl, rfl, h1, r1⟩ := trodAll_cons r0
  obtain ⟨v2, vs2, d2, ds2, p2, q2, rfl, rfl, rfl, h2, r2⟩ := trodAll_cons r1
  obtain ⟨rfl, rfl, rfl⟩ := trodAll_nil r2
  obtain rfl : args = #[v0, v1, v2] := by cases args; simp_all
  obtain ⟨rfl, rfl⟩ := trodVars_none hV
  obtain ⟨a0, rfl, rfl, rfl, w0⟩ := open_int Try.underlying2 (hval 0 2 v0 rfl rfl) h0
  obtain ⟨a1, rfl, rfl, rfl, w1⟩ := open_int Try.underlying2 (hval 1 2 v1 rfl rfl) h1
  obtain ⟨a2, rfl, rfl, rfl, w2⟩ := open_int Try.underlying2 (hval 2 2 v2 rfl rfl) h2
  clear hA0 hval0
  have hk0 : kwf .i64 a0 := by simpa [Lit.wf, kwf] using w0
  have hk1 : kwf .i64 a1 := by simpa [Lit.wf, kwf] using w1
  have hk2 : kwf .i64 a2 := by simpa [Lit.wf, kwf] using w2
  -- PRE: what the spec asks (['hk0', 'hk1', 'hk2']), then rfl
  refine (calls_of_holds loadBetween_ok Try.call6 (w := W) (vals := #[.int .i64 a0, .int .i64 a1, .int .i64 a2]) (args := [.int .i64 a0, .int .i64 a1, .int .i64 a2]) rfl (fun j v hj => ?_) ⟨hk0, hk1, hk2, rfl⟩).mono fun e W' ⟨he, bel⟩ => ?_
  · rcases j with _ | _ | _ | j
    · simp at hj; subst hj; exact .int hk0
    · simp at hj; subst hj; exact .int hk1
    · simp at hj; subst hj; exact .int hk2
    · simp at hj
  subst he
  exact ⟨_, rfl, _, _, _, [], _, [], hW', trodAll_mk1 (shut_bool Try.underlying4 _), (trodAll_cons_mk (shut_int Try.underlying2 w0) (trodAll_cons_mk (shut_int Try.underlying2 w1) (trodAll_cons_mk (shut_int Try.underlying2 w2) trodAll_mk0))), rfl, bel.frame _, fun h => by cases h⟩

theorem loadBetween_said : Rows.LoadBetweenSaid :=
  OpenClaim.holds_of_wide 6 Try.f6 rfl rfl rfl rfl rfl rfl rfl ⟨rfl, rfl, rfl, rfl, rfl⟩ rfl rfl rfl rfl rfl (by kernel_rfl) Try.func6 (by kernel_rfl)
    (of_decide_eq_true (by kernel_rfl)) (by unfold Func.isWrapper; first | (rw [if_pos (by decide +kernel)]; kernel_rfl) | (rw [if_neg (by decide +kernel)]; exact ⟨rfl, rfl⟩))
    (fun os started H enc _ => loadBetweenLifted os started H enc)
#print axioms loadBetween_said
end Go.Proofs.Ytmlfpijallccgaa

namespace Go.Proofs.Ytmlfpijallccgaa
open Go.ChangeShapes Go.WideShapes Go.ChangeAt Go.RowKit Go.Eng
set_option linter.unusedVariables false

theorem ownD : ownKnob Try.prog.godebug = none := by kernel_rfl
theorem laidD : laidOutB Try.prog = true := by kernel_rfl

set_option maxRecDepth 100000 in
theorem loadTellsLifted (os : Os) (started : os.Started) (H : Type) (enc : TypeId × Value → H) :
    ReturnsInHanded {} Try.checked os 4 .any (Rows.loadTellsSpec.pre6 enc Try.prog Try.f4 Rows.loadTellsRow.domain false) (Rows.loadTellsSpec.post enc Try.prog Try.f4 false true false false) := by
  refine returnsInHanded_of_change (C := Try.checked) ownD started (by kernel_rfl) Try.func4
    (ChangeSpec.witness6 (enc := enc) (C := Try.checked) false ⟨#[], #[.int .i64 0, .int .i64 0, .int .i64 0, .int .i64 0, .slice none 0 0], []⟩ 8 (by kernel_rfl) (by kernel_rfl) (by kernel_rfl) (by kernel_rfl)) ?_
  intro W base args ds gs before hval0 hW hcnd _
  have hval : ∀ (j : Nat) t v, Try.f4.params[j]? = some t → args[j]? = some v → Value.okWide Try.prog W .any base t v := hval0
  have hW' := hW
  obtain ⟨p, q, hA0, hV, rfl, hfz, hnd⟩ := hW
  have hA : DataW.TrodAll enc Try.prog W 0 (fun _ => true) true Try.f4.params.toList args.toList ds p := hA0
  rw [Try.params4] at hA hval
  obtain ⟨v0, vs0, d0, ds0, p0, q0, hargs, rfl, rfl, h0, r0⟩ := trodAll_cons hA
  obtain ⟨v1, vs1, d1, ds1, p1, q1, rfl, rfl, rfl, h1, r1⟩ := trodAll_cons r0
  obtain ⟨v2, vs2, d2, ds2, p2, q2, rfl, rfl, rfl, h2, r2⟩ := trodAll_cons r1
  obtain ⟨v3, vs3, d3, ds3, p3, q3, rfl, rfl, rfl, h3, r3⟩ := trodAll_cons r2
  obtain ⟨v4, vs4, d4, ds4, p4, q4, rfl, rfl, rfl, h4, r4⟩ := trodAll_cons r3
  obtain ⟨rfl, rfl, rfl⟩ := trodAll_nil r4
  obtain rfl : args = #[v0, v1, v2, v3, v4] := by cases args; simp_all
  obtain ⟨rfl, rfl⟩ := trodVars_none hV
  obtain ⟨a0, rfl, rfl, rfl, w0⟩ := open_int Try.underlying3 (hval 0 3 v0 rfl rfl) h0
  obtain ⟨a1, rfl, rfl, rfl, w1⟩ := open_int Try.underlying3 (hval 1 3 v1 rfl rfl) h1
  obtain ⟨a2, rfl, rfl, rfl, w2⟩ := open_int Try.underlying3 (hval 2 3 v2 rfl rfl) h2
  obtain ⟨a3, rfl, rfl, rfl, w3⟩ := open_int Try.underlying3 (hval 3 3 v3 rfl rfl) h3
  have k4 := h4
  have lt4 : ∀ x ∈ p4, x.block < W.heap.size := by obtain ⟨m, hm⟩ := k4; exact DataW.trod_lt m _ _ _ hm
  obtain ⟨xs4, w4⟩ : ∃ xs : List Int, Rep W (· < W.heap.size) noIds v4 (.sl 1 xs) := by
    obtain ⟨fuel, hf⟩ := h4
    exact rep_ints Try.underlying27 Try.underlying2 (by kernel_rfl) (hval 4 27 v4 rfl rfl) hf
  clear hA0 hval0
  have hk0 : kwf .i64 a0 := by simpa [Lit.wf, kwf] using w0
  have hk1 : kwf .i64 a1 := by simpa [Lit.wf, kwf] using w1
  have hk2 : kwf .i64 a2 := by simpa [Lit.wf, kwf] using w2
  have hk3 : kwf .i64 a3 := by simpa [Lit.wf, kwf] using w3
  -- PRE: what the spec asks (['hk0', 'hk1', 'hk2', 'hk3']), then rfl
  refine (calls_of_holds loadTells_ok Try.call4 (w := W) (vals := #[.int .i64 a0, .int .i64 a1, .int .i64 a2, .int .i64 a3, v4]) (args := [.int .i64 a0, .int .i64 a1, .int .i64 a2, .int .i64 a3, .sl 1 xs4]) rfl (fun j v hj => ?_) ⟨hk0, hk1, hk2, hk3, rfl⟩).mono fun e W' ⟨he, bel⟩ => ?_
  · rcases j with _ | _ | _ | _ | _ | j
    · simp at hj; subst hj; exact .int hk0
    · simp at hj; subst hj; exact .int hk1
    · simp at hj; subst hj; exact .int hk2
    · simp at hj; subst hj; exact .int hk3
    · simp at hj; subst hj; exact w4
    · simp at hj
  subst he
  exact ⟨_, rfl, _, _, _, [], _, [], hW', trodAll_mk1 (shut_bool Try.underlying4 _), (trodAll_cons_mk (shut_int Try.underlying3 w0) (trodAll_cons_mk (shut_int Try.underlying3 w1) (trodAll_cons_mk (shut_int Try.underlying3 w2) (trodAll_cons_mk (shut_int Try.underlying3 w3) (trodAll_cons_mk (Below.trod laidD (by kernel_rfl) (of_decide_eq_true (by kernel_rfl)) k4 bel lt4) trodAll_mk0))))), rfl, bel.frame _, fun h => by cases h⟩

theorem loadTells_said : Rows.LoadTellsSaid :=
  OpenClaim.holds_of_wide 4 Try.f4 rfl rfl rfl rfl rfl rfl rfl ⟨rfl, rfl, rfl, rfl, rfl⟩ rfl rfl rfl rfl rfl (by kernel_rfl) Try.func4 (by kernel_rfl)
    (of_decide_eq_true (by kernel_rfl)) (by unfold Func.isWrapper; first | (rw [if_pos (by decide +kernel)]; kernel_rfl) | (rw [if_neg (by decide +kernel)]; exact ⟨rfl, rfl⟩))
    (fun os started H enc _ => loadTellsLifted os started H enc)
#print axioms loadTells_said
end Go.Proofs.Ytmlfpijallccgaa


