/- The statements of layer 1 (fix): sums, products, quotients, rounding, bounds and mixing, for every input. No conditions. -/
import Derived.Test.YtlbnmnaamphclaaFxD
import Derived.Test.YtlbnmnaamphclaaEngR
import Derived.Test.YtlbnmnaamphclaaRows
namespace Go.Proofs.Ytlbnmnaamphclaa
open Go Go.Eng Go.Fx Go.Proofs
set_option linter.unusedVariables false
set_option maxHeartbeats 2000000 in
theorem within_vc (a : Int) (a0 : (-9223372036854775808 : Int) ≤ a) (a1 : a ≤ (9223372036854775807 : Int)) (k : AV → List (Option Blk) → List Blk → Prop) (hk : k (AV.bool (decide ((-70368744177664 : Int) ≤ a ∧ a ≤ (70368744177664 : Int)))) [] []) :
  (k (AV.bool (bif decide (a ≥ (-70368744177664 : Int)) then decide (a ≤ (70368744177664 : Int)) else false)) [] []) := by
  -- k (AV.bool (bif decide (a ≥ (-70368744177664 : Int)) then decide (a ≤ (70368744177664 : Int)) else false)) [] []
  have e : (bif decide (a ≥ (-70368744177664 : Int)) then decide (a ≤ 70368744177664) else false) = decide (-70368744177664 ≤ a ∧ a ≤ 70368744177664) := by rw [Bool.eq_iff_iff]; simp
  rw [e]; exact hk

theorem within_ok : Holds Try.prog 28 withinS := by
  refine fn_sound (env := mkEnv T0) (tab_ok T0_ok) Try.func28 Try.call28 fun args k h => ?_
  match args, h with
  | [.int .i64 a], h => exact ⟨by kernel_rfl, fun _ _ => none, fun _ _ => none, .cast (by kernel_rfl) (within_vc a h.1.1 h.1.2 k h.2)⟩
theorem T2_ok : TabOk Try.prog T2 := ⟨alive_ok, within_ok, fix_Add_ok, fix_Sub_ok, rAdd_ok, rSub_ok, fix_Of_ok, rOf_ok, fix_Round_ok, rRound_ok, fix_Div_ok, rDiv_ok, fix_Mul_ok, rMul_ok, fix_Mix_ok, rMix_ok, fix_Clamp_ok, stoplineref01_Clamp_ok, trivial⟩
set_option maxHeartbeats 2000000 in
theorem fixTurns_vc (n : Int) (n0 : (-9223372036854775808 : Int) ≤ n) (n1 : n ≤ (9223372036854775807 : Int)) (a : Int) (a0 : (-9223372036854775808 : Int) ≤ a) (a1 : a ≤ (9223372036854775807 : Int)) (b : Int) (b0 : (-9223372036854775808 : Int) ≤ b) (b1 : b ≤ (9223372036854775807 : Int)) (c : Int) (c0 : (-9223372036854775808 : Int) ≤ c) (c1 : c ≤ (9223372036854775807 : Int)) (k : AV → List (Option Blk) → List Blk → Prop) (hk : k (AV.bool true) [] []) :
  (
   ((-9223372036854775808 : Int) ≤ n) ∧
   (n ≤ (9223372036854775807 : Int))) ∧
  ∀ (r_1 : Int),
  (r_1 = ofI n) →
  ((-70368744177664 : Int) ≤ r_1 ∧ r_1 ≤ (70368744177664 : Int)) →
  (
   ((-9223372036854775808 : Int) ≤ n) ∧
   (n ≤ (9223372036854775807 : Int))) ∧
  ∀ (r_4 : Int),
  (r_4 = ofI n) →
  ((-70368744177664 : Int) ≤ r_4 ∧ r_4 ≤ (70368744177664 : Int)) →
  br (r_1 == r_4)
   ((
     ((-9223372036854775808 : Int) ≤ a) ∧
     (a ≤ (9223372036854775807 : Int))) ∧
    ∀ (r_7 : Int),
    (r_7 = roundI a) →
    ((-1073741824 : Int) ≤ r_7 ∧ r_7 ≤ (1073741824 : Int)) →
    (
     ((-9223372036854775808 : Int) ≤ a) ∧
     (a ≤ (9223372036854775807 : Int))) ∧
    ∀ (r_10 : Int),
    (r_10 = roundI a) →
    ((-1073741824 : Int) ≤ r_10 ∧ r_10 ≤ (1073741824 : Int)) →
    br (bif true then r_7 == r_10 else false)
     ((
       ((-9223372036854775808 : Int) ≤ a) ∧
       (a ≤ (9223372036854775807 : Int))) ∧
      (
       ((-9223372036854775808 : Int) ≤ b) ∧
       (b ≤ (9223372036854775807 : Int))) ∧
      (
       ((-9223372036854775808 : Int) ≤ c) ∧
       (c ≤ (9223372036854775807 : Int))) ∧
      ∀ (r_13 : Int),
      (r_13 = clampI a b c) →
      (True) →
      (
       ((-9223372036854775808 : Int) ≤ a) ∧
       (a ≤ (9223372036854775807 : Int))) ∧
      (
       ((-9223372036854775808 : Int) ≤ b) ∧
       (b ≤ (9223372036854775807 : Int))) ∧
      (
       ((-9223372036854775808 : Int) ≤ c) ∧
       (c ≤ (9223372036854775807 : Int))) ∧
      ∀ (r_16 : Int),
      (r_16 = clampI a b c) →
      (True) →
      br (bif true then r_13 == r_16 else false)
       ((
         ((-9223372036854775808 : Int) ≤ a) ∧
         (a ≤ (9223372036854775807 : Int))) ∧
        (
         ((-9223372036854775808 : Int) ≤ b) ∧
         (b ≤ (9223372036854775807 : Int))) ∧
        (
         ((-9223372036854775808 : Int) ≤ c) ∧
         (c ≤ (9223372036854775807 : Int))) ∧
        ∀ (r_19 : Int),
        (r_19 = mixI a b c) →
        ((-70368744177664 : Int) ≤ r_19 ∧ r_19 ≤ (70368744177664 : Int)) →
        (
         ((-9223372036854775808 : Int) ≤ a) ∧
         (a ≤ (9223372036854775807 : Int))) ∧
        (
         ((-9223372036854775808 : Int) ≤ b) ∧
         (b ≤ (9223372036854775807 : Int))) ∧
        (
         ((-9223372036854775808 : Int) ≤ c) ∧
         (c ≤ (9223372036854775807 : Int))) ∧
        ∀ (r_22 : Int),
        (r_22 = mixI a b c) →
        ((-70368744177664 : Int) ≤ r_22 ∧ r_22 ≤ (70368744177664 : Int)) →
        (k (AV.bool (bif true then r_19 == r_22 else false)) [] []))
       ((false = false) ∧
        (k (AV.bool false) [] [])))
     ((false = false) ∧
      (false = false) ∧
      (k (AV.bool false) [] [])))
   ((false = false) ∧
    (false = false) ∧
    (false = false) ∧
    (k (AV.bool false) [] [])) := by
  refine ⟨by exact ⟨by assumption, by assumption⟩, ?_⟩ -- (-9223372036854775808 : Int) ≤ n ∧ n ≤ (9223372036854775807 : Int)
  intro r_1
  intro h1 -- r_1 = ofI n
  intro ⟨a2, b2⟩ -- (-70368744177664 : Int) ≤ r_1 ∧ r_1 ≤ (70368744177664 : Int)
  refine ⟨by exact ⟨by assumption, by assumption⟩, ?_⟩ -- (-9223372036854775808 : Int) ≤ n ∧ n ≤ (9223372036854775807 : Int)
  intro r_4
  intro h3 -- r_4 = ofI n
  intro ⟨a4, b4⟩ -- (-70368744177664 : Int) ≤ r_4 ∧ r_4 ≤ (70368744177664 : Int)
  refine br_intro (fun c5 => ?_) (fun c5 => ?_) -- r_1 == r_4
  · -- yes
    simp at c5 -- r_1 = r_4
    refine ⟨by exact ⟨by assumption, by assumption⟩, ?_⟩ -- (-9223372036854775808 : Int) ≤ a ∧ a ≤ (9223372036854775807 : Int)
    intro r_7
    intro h6 -- r_7 = roundI a
    intro ⟨a7, b7⟩ -- (-1073741824 : Int) ≤ r_7 ∧ r_7 ≤ (1073741824 : Int)
    refine ⟨by exact ⟨by assumption, by assumption⟩, ?_⟩ -- (-9223372036854775808 : Int) ≤ a ∧ a ≤ (9223372036854775807 : Int)
    intro r_10
    intro h8 -- r_10 = roundI a
    intro ⟨a9, b9⟩ -- (-1073741824 : Int) ≤ r_10 ∧ r_10 ≤ (1073741824 : Int)
    refine br_intro (fun c10 => ?_) (fun c10 => ?_) -- bif true then r_7 == r_10 else false
    · -- yes
      simp at c10 -- r_7 = r_10
      refine ⟨by exact ⟨by assumption, by assumption⟩, ?_⟩ -- (-9223372036854775808 : Int) ≤ a ∧ a ≤ (9223372036854775807 : Int)
      refine ⟨by exact ⟨by assumption, by assumption⟩, ?_⟩ -- (-9223372036854775808 : Int) ≤ b ∧ b ≤ (9223372036854775807 : Int)
      refine ⟨by exact ⟨by assumption, by assumption⟩, ?_⟩ -- (-9223372036854775808 : Int) ≤ c ∧ c ≤ (9223372036854775807 : Int)
      intro r_13
      intro h11 -- r_13 = clampI a b c
      intro h12 -- True
      refine ⟨by exact ⟨by assumption, by assumption⟩, ?_⟩ -- (-9223372036854775808 : Int) ≤ a ∧ a ≤ (9223372036854775807 : Int)
      refine ⟨by exact ⟨by assumption, by assumption⟩, ?_⟩ -- (-9223372036854775808 : Int) ≤ b ∧ b ≤ (9223372036854775807 : Int)
      refine ⟨by exact ⟨by assumption, by assumption⟩, ?_⟩ -- (-9223372036854775808 : Int) ≤ c ∧ c ≤ (9223372036854775807 : Int)
      intro r_16
      intro h13 -- r_16 = clampI a b c
      intro h14 -- True
      refine br_intro (fun c15 => ?_) (fun c15 => ?_) -- bif true then r_13 == r_16 else false
      · -- yes
        simp at c15 -- r_13 = r_16
        refine ⟨by exact ⟨by assumption, by assumption⟩, ?_⟩ -- (-9223372036854775808 : Int) ≤ a ∧ a ≤ (9223372036854775807 : Int)
        refine ⟨by exact ⟨by assumption, by assumption⟩, ?_⟩ -- (-9223372036854775808 : Int) ≤ b ∧ b ≤ (9223372036854775807 : Int)
        refine ⟨by exact ⟨by assumption, by assumption⟩, ?_⟩ -- (-9223372036854775808 : Int) ≤ c ∧ c ≤ (9223372036854775807 : Int)
        intro r_19
        intro h16 -- r_19 = mixI a b c
        intro ⟨a17, b17⟩ -- (-70368744177664 : Int) ≤ r_19 ∧ r_19 ≤ (70368744177664 : Int)
        refine ⟨by exact ⟨by assumption, by assumption⟩, ?_⟩ -- (-9223372036854775808 : Int) ≤ a ∧ a ≤ (9223372036854775807 : Int)
        refine ⟨by exact ⟨by assumption, by assumption⟩, ?_⟩ -- (-9223372036854775808 : Int) ≤ b ∧ b ≤ (9223372036854775807 : Int)
        refine ⟨by exact ⟨by assumption, by assumption⟩, ?_⟩ -- (-9223372036854775808 : Int) ≤ c ∧ c ≤ (9223372036854775807 : Int)
        intro r_22
        intro h18 -- r_22 = mixI a b c
        intro ⟨a19, b19⟩ -- (-70368744177664 : Int) ≤ r_22 ∧ r_22 ≤ (70368744177664 : Int)
        exact by exact k_true hk (by simp only [*]; simp) -- k (AV.bool (bif true then r_19 == r_22 else false)) [] []
      · -- no
        simp at c15 -- ¬r_13 = r_16
        refine ⟨by with_reducible rfl, ?_⟩ -- false = false
        exact by (exfalso; omega) -- k (AV.bool false) [] []
    · -- no
      simp at c10 -- ¬r_7 = r_10
      refine ⟨by with_reducible rfl, ?_⟩ -- false = false
      refine ⟨by with_reducible rfl, ?_⟩ -- false = false
      exact by (exfalso; omega) -- k (AV.bool false) [] []
  · -- no
    simp at c5 -- ¬r_1 = r_4
    refine ⟨by with_reducible rfl, ?_⟩ -- false = false
    refine ⟨by with_reducible rfl, ?_⟩ -- false = false
    refine ⟨by with_reducible rfl, ?_⟩ -- false = false
    exact by (exfalso; omega) -- k (AV.bool false) [] []

theorem fixTurns_ok : Holds Try.prog 3 lawI4 := by
  refine fn_sound (env := mkEnv T2) (tab_ok T2_ok) Try.func3 Try.call3 fun args k h => ?_
  match args, h with
  | [.int .i64 n, .int .i64 a, .int .i64 b, .int .i64 c], h => exact ⟨by kernel_rfl, fun _ _ => none, fun _ _ => none, .cast (by kernel_rfl) (fixTurns_vc n h.1.1 h.1.2 a h.2.1.1 h.2.1.2 b h.2.2.1.1 h.2.2.1.2 c h.2.2.2.1.1 h.2.2.2.1.2 k h.2.2.2.2)⟩
set_option maxHeartbeats 2000000 in
theorem fixReckons_vc (a : Int) (a0 : (-9223372036854775808 : Int) ≤ a) (a1 : a ≤ (9223372036854775807 : Int)) (b : Int) (b0 : (-9223372036854775808 : Int) ≤ b) (b1 : b ≤ (9223372036854775807 : Int)) (k : AV → List (Option Blk) → List Blk → Prop) (hk : k (AV.bool true) [] []) :
  (
   ((-9223372036854775808 : Int) ≤ a) ∧
   (a ≤ (9223372036854775807 : Int))) ∧
  (
   ((-9223372036854775808 : Int) ≤ b) ∧
   (b ≤ (9223372036854775807 : Int))) ∧
  ∀ (q_1 : Int),
  ∀ (e_2 : Int),
  (q_1 = divQ a b) →
  (e_2 = divE b) →
  ((-70368744177664 : Int) ≤ q_1 ∧ q_1 ≤ (70368744177664 : Int)) →
  (e_2 = (0 : Int) ∨ e_2 = (10 : Int)) →
  (
   ((-9223372036854775808 : Int) ≤ a) ∧
   (a ≤ (9223372036854775807 : Int))) ∧
  (
   ((-9223372036854775808 : Int) ≤ b) ∧
   (b ≤ (9223372036854775807 : Int))) ∧
  ∀ (q_7 : Int),
  ∀ (e_8 : Int),
  (q_7 = divQ a b) →
  (e_8 = divE b) →
  ((-70368744177664 : Int) ≤ q_7 ∧ q_7 ≤ (70368744177664 : Int)) →
  (e_8 = (0 : Int) ∨ e_8 = (10 : Int)) →
  (
   ((-9223372036854775808 : Int) ≤ a) ∧
   (a ≤ (9223372036854775807 : Int))) ∧
  (
   ((-9223372036854775808 : Int) ≤ b) ∧
   (b ≤ (9223372036854775807 : Int))) ∧
  ∀ (r_13 : Int),
  (r_13 = addI a b) →
  ((-70368744177664 : Int) ≤ r_13 ∧ r_13 ≤ (70368744177664 : Int)) →
  (
   ((-9223372036854775808 : Int) ≤ a) ∧
   (a ≤ (9223372036854775807 : Int))) ∧
  (
   ((-9223372036854775808 : Int) ≤ b) ∧
   (b ≤ (9223372036854775807 : Int))) ∧
  ∀ (r_16 : Int),
  (r_16 = addI a b) →
  ((-70368744177664 : Int) ≤ r_16 ∧ r_16 ≤ (70368744177664 : Int)) →
  br (r_13 == r_16)
   ((
     ((-9223372036854775808 : Int) ≤ a) ∧
     (a ≤ (9223372036854775807 : Int))) ∧
    (
     ((-9223372036854775808 : Int) ≤ b) ∧
     (b ≤ (9223372036854775807 : Int))) ∧
    ∀ (r_19 : Int),
    (r_19 = subI a b) →
    ((-70368744177664 : Int) ≤ r_19 ∧ r_19 ≤ (70368744177664 : Int)) →
    (
     ((-9223372036854775808 : Int) ≤ a) ∧
     (a ≤ (9223372036854775807 : Int))) ∧
    (
     ((-9223372036854775808 : Int) ≤ b) ∧
     (b ≤ (9223372036854775807 : Int))) ∧
    ∀ (r_22 : Int),
    (r_22 = subI a b) →
    ((-70368744177664 : Int) ≤ r_22 ∧ r_22 ≤ (70368744177664 : Int)) →
    br (bif true then r_19 == r_22 else false)
     ((
       ((-9223372036854775808 : Int) ≤ a) ∧
       (a ≤ (9223372036854775807 : Int))) ∧
      (
       ((-9223372036854775808 : Int) ≤ b) ∧
       (b ≤ (9223372036854775807 : Int))) ∧
      ∀ (r_25 : Int),
      (r_25 = mulI a b) →
      ((-70368744177664 : Int) ≤ r_25 ∧ r_25 ≤ (70368744177664 : Int)) →
      (
       ((-9223372036854775808 : Int) ≤ a) ∧
       (a ≤ (9223372036854775807 : Int))) ∧
      (
       ((-9223372036854775808 : Int) ≤ b) ∧
       (b ≤ (9223372036854775807 : Int))) ∧
      ∀ (r_28 : Int),
      (r_28 = mulI a b) →
      ((-70368744177664 : Int) ≤ r_28 ∧ r_28 ≤ (70368744177664 : Int)) →
      (k (AV.bool (bif bif bif true then r_25 == r_28 else false then q_1 == q_7 else false then e_2 == e_8 else false)) [] []))
     ((false = false) ∧
      (k (AV.bool (bif bif false then q_1 == q_7 else false then e_2 == e_8 else false)) [] [])))
   ((false = false) ∧
    (false = false) ∧
    (k (AV.bool (bif bif false then q_1 == q_7 else false then e_2 == e_8 else false)) [] [])) := by
  refine ⟨by exact ⟨by assumption, by assumption⟩, ?_⟩ -- (-9223372036854775808 : Int) ≤ a ∧ a ≤ (9223372036854775807 : Int)
  refine ⟨by exact ⟨by assumption, by assumption⟩, ?_⟩ -- (-9223372036854775808 : Int) ≤ b ∧ b ≤ (9223372036854775807 : Int)
  intro q_1
  intro e_2
  intro h1 -- q_1 = divQ a b
  intro h2 -- e_2 = divE b
  intro ⟨a3, b3⟩ -- (-70368744177664 : Int) ≤ q_1 ∧ q_1 ≤ (70368744177664 : Int)
  intro h4 -- e_2 = (0 : Int) ∨ e_2 = (10 : Int)
  refine ⟨by exact ⟨by assumption, by assumption⟩, ?_⟩ -- (-9223372036854775808 : Int) ≤ a ∧ a ≤ (9223372036854775807 : Int)
  refine ⟨by exact ⟨by assumption, by assumption⟩, ?_⟩ -- (-9223372036854775808 : Int) ≤ b ∧ b ≤ (9223372036854775807 : Int)
  intro q_7
  intro e_8
  intro h5 -- q_7 = divQ a b
  intro h6 -- e_8 = divE b
  intro ⟨a7, b7⟩ -- (-70368744177664 : Int) ≤ q_7 ∧ q_7 ≤ (70368744177664 : Int)
  intro h8 -- e_8 = (0 : Int) ∨ e_8 = (10 : Int)
  refine ⟨by exact ⟨by assumption, by assumption⟩, ?_⟩ -- (-9223372036854775808 : Int) ≤ a ∧ a ≤ (9223372036854775807 : Int)
  refine ⟨by exact ⟨by assumption, by assumption⟩, ?_⟩ -- (-9223372036854775808 : Int) ≤ b ∧ b ≤ (9223372036854775807 : Int)
  intro r_13
  intro h9 -- r_13 = addI a b
  intro ⟨a10, b10⟩ -- (-70368744177664 : Int) ≤ r_13 ∧ r_13 ≤ (70368744177664 : Int)
  refine ⟨by exact ⟨by assumption, by assumption⟩, ?_⟩ -- (-9223372036854775808 : Int) ≤ a ∧ a ≤ (9223372036854775807 : Int)
  refine ⟨by exact ⟨by assumption, by assumption⟩, ?_⟩ -- (-9223372036854775808 : Int) ≤ b ∧ b ≤ (9223372036854775807 : Int)
  intro r_16
  intro h11 -- r_16 = addI a b
  intro ⟨a12, b12⟩ -- (-70368744177664 : Int) ≤ r_16 ∧ r_16 ≤ (70368744177664 : Int)
  refine br_intro (fun c13 => ?_) (fun c13 => ?_) -- r_13 == r_16
  · -- yes
    simp at c13 -- r_13 = r_16
    refine ⟨by exact ⟨by assumption, by assumption⟩, ?_⟩ -- (-9223372036854775808 : Int) ≤ a ∧ a ≤ (9223372036854775807 : Int)
    refine ⟨by exact ⟨by assumption, by assumption⟩, ?_⟩ -- (-9223372036854775808 : Int) ≤ b ∧ b ≤ (9223372036854775807 : Int)
    intro r_19
    intro h14 -- r_19 = subI a b
    intro ⟨a15, b15⟩ -- (-70368744177664 : Int) ≤ r_19 ∧ r_19 ≤ (70368744177664 : Int)
    refine ⟨by exact ⟨by assumption, by assumption⟩, ?_⟩ -- (-9223372036854775808 : Int) ≤ a ∧ a ≤ (9223372036854775807 : Int)
    refine ⟨by exact ⟨by assumption, by assumption⟩, ?_⟩ -- (-9223372036854775808 : Int) ≤ b ∧ b ≤ (9223372036854775807 : Int)
    intro r_22
    intro h16 -- r_22 = subI a b
    intro ⟨a17, b17⟩ -- (-70368744177664 : Int) ≤ r_22 ∧ r_22 ≤ (70368744177664 : Int)
    refine br_intro (fun c18 => ?_) (fun c18 => ?_) -- bif true then r_19 == r_22 else false
    · -- yes
      simp at c18 -- r_19 = r_22
      refine ⟨by exact ⟨by assumption, by assumption⟩, ?_⟩ -- (-9223372036854775808 : Int) ≤ a ∧ a ≤ (9223372036854775807 : Int)
      refine ⟨by exact ⟨by assumption, by assumption⟩, ?_⟩ -- (-9223372036854775808 : Int) ≤ b ∧ b ≤ (9223372036854775807 : Int)
      intro r_25
      intro h19 -- r_25 = mulI a b
      intro ⟨a20, b20⟩ -- (-70368744177664 : Int) ≤ r_25 ∧ r_25 ≤ (70368744177664 : Int)
      refine ⟨by exact ⟨by assumption, by assumption⟩, ?_⟩ -- (-9223372036854775808 : Int) ≤ a ∧ a ≤ (9223372036854775807 : Int)
      refine ⟨by exact ⟨by assumption, by assumption⟩, ?_⟩ -- (-9223372036854775808 : Int) ≤ b ∧ b ≤ (9223372036854775807 : Int)
      intro r_28
      intro h21 -- r_28 = mulI a b
      intro ⟨a22, b22⟩ -- (-70368744177664 : Int) ≤ r_28 ∧ r_28 ≤ (70368744177664 : Int)
      exact by exact k_true hk (by simp only [*]; simp) -- k (AV.bool (bif bif bif true then r_25 == r_28 else false then q_1 == q_7 else false then e_2 == e_8 else false)) [] []
    · -- no
      simp at c18 -- ¬r_19 = r_22
      refine ⟨by with_reducible rfl, ?_⟩ -- false = false
      exact by (exfalso; omega) -- k (AV.bool (bif bif false then q_1 == q_7 else false then e_2 == e_8 else false)) [] []
  · -- no
    simp at c13 -- ¬r_13 = r_16
    refine ⟨by with_reducible rfl, ?_⟩ -- false = false
    refine ⟨by with_reducible rfl, ?_⟩ -- false = false
    exact by (exfalso; omega) -- k (AV.bool (bif bif false then q_1 == q_7 else false then e_2 == e_8 else false)) [] []

theorem fixReckons_ok : Holds Try.prog 4 lawI2 := by
  refine fn_sound (env := mkEnv T2) (tab_ok T2_ok) Try.func4 Try.call4 fun args k h => ?_
  match args, h with
  | [.int .i64 a, .int .i64 b], h => exact ⟨by kernel_rfl, fun _ _ => none, fun _ _ => none, .cast (by kernel_rfl) (fixReckons_vc a h.1.1 h.1.2 b h.2.1.1 h.2.1.2 k h.2.2)⟩
set_option maxHeartbeats 2000000 in
theorem fixTwo_vc (a : Int) (a0 : (-9223372036854775808 : Int) ≤ a) (a1 : a ≤ (9223372036854775807 : Int)) (b : Int) (b0 : (-9223372036854775808 : Int) ≤ b) (b1 : b ≤ (9223372036854775807 : Int)) (k : AV → List (Option Blk) → List Blk → Prop) (hk : k (AV.bool true) [] []) :
  (
   ((-9223372036854775808 : Int) ≤ a) ∧
   (a ≤ (9223372036854775807 : Int))) ∧
  (
   ((-9223372036854775808 : Int) ≤ (0 : Int)) ∧
   ((0 : Int) ≤ (9223372036854775807 : Int))) ∧
  ∀ (r_1 : Int),
  (r_1 = addI a (0 : Int)) →
  ((-70368744177664 : Int) ≤ r_1 ∧ r_1 ≤ (70368744177664 : Int)) →
  (
   ((-9223372036854775808 : Int) ≤ a) ∧
   (a ≤ (9223372036854775807 : Int))) ∧
  (
   ((-9223372036854775808 : Int) ≤ (65536 : Int)) ∧
   ((65536 : Int) ≤ (9223372036854775807 : Int))) ∧
  ∀ (q_4 : Int),
  ∀ (e_5 : Int),
  (q_4 = divQ a (65536 : Int)) →
  (e_5 = divE (65536 : Int)) →
  ((-70368744177664 : Int) ≤ q_4 ∧ q_4 ≤ (70368744177664 : Int)) →
  (e_5 = (0 : Int) ∨ e_5 = (10 : Int)) →
  (
   ((-9223372036854775808 : Int) ≤ a) ∧
   (a ≤ (9223372036854775807 : Int))) ∧
  (
   ((-9223372036854775808 : Int) ≤ b) ∧
   (b ≤ (9223372036854775807 : Int))) ∧
  ∀ (r_10 : Int),
  (r_10 = addI a b) →
  ((-70368744177664 : Int) ≤ r_10 ∧ r_10 ≤ (70368744177664 : Int)) →
  (
   ((-9223372036854775808 : Int) ≤ b) ∧
   (b ≤ (9223372036854775807 : Int))) ∧
  (
   ((-9223372036854775808 : Int) ≤ a) ∧
   (a ≤ (9223372036854775807 : Int))) ∧
  ∀ (r_13 : Int),
  (r_13 = addI b a) →
  ((-70368744177664 : Int) ≤ r_13 ∧ r_13 ≤ (70368744177664 : Int)) →
  br (bif true then r_10 == r_13 else false)
   ((
     ((-9223372036854775808 : Int) ≤ a) ∧
     (a ≤ (9223372036854775807 : Int))) ∧
    (
     ((-9223372036854775808 : Int) ≤ b) ∧
     (b ≤ (9223372036854775807 : Int))) ∧
    ∀ (r_16 : Int),
    (r_16 = mulI a b) →
    ((-70368744177664 : Int) ≤ r_16 ∧ r_16 ≤ (70368744177664 : Int)) →
    (
     ((-9223372036854775808 : Int) ≤ b) ∧
     (b ≤ (9223372036854775807 : Int))) ∧
    (
     ((-9223372036854775808 : Int) ≤ a) ∧
     (a ≤ (9223372036854775807 : Int))) ∧
    ∀ (r_19 : Int),
    (r_19 = mulI b a) →
    ((-70368744177664 : Int) ≤ r_19 ∧ r_19 ≤ (70368744177664 : Int)) →
    br (bif true then r_16 == r_19 else false)
     ((
       ((-9223372036854775808 : Int) ≤ a) ∧
       (a ≤ (9223372036854775807 : Int))) ∧
      (
       ((-9223372036854775808 : Int) ≤ (65536 : Int)) ∧
       ((65536 : Int) ≤ (9223372036854775807 : Int))) ∧
      ∀ (r_22 : Int),
      (r_22 = mulI a (65536 : Int)) →
      ((-70368744177664 : Int) ≤ r_22 ∧ r_22 ≤ (70368744177664 : Int)) →
      br (bif bif bif true then r_22 == r_1 else false then q_4 == r_1 else false then e_5 == (0 : Int) else false)
       ((
         ((-9223372036854775808 : Int) ≤ a) ∧
         (a ≤ (9223372036854775807 : Int))) ∧
        (
         ((-9223372036854775808 : Int) ≤ a) ∧
         (a ≤ (9223372036854775807 : Int))) ∧
        ∀ (r_25 : Int),
        (r_25 = subI a a) →
        ((-70368744177664 : Int) ≤ r_25 ∧ r_25 ≤ (70368744177664 : Int)) →
        br (bif true then r_25 == (0 : Int) else false)
         ((
           ((-9223372036854775808 : Int) ≤ a) ∧
           (a ≤ (9223372036854775807 : Int))) ∧
          (
           ((-9223372036854775808 : Int) ≤ (0 : Int)) ∧
           ((0 : Int) ≤ (9223372036854775807 : Int))) ∧
          ∀ (r_28 : Int),
          (r_28 = mulI a (0 : Int)) →
          ((-70368744177664 : Int) ≤ r_28 ∧ r_28 ≤ (70368744177664 : Int)) →
          (k (AV.bool (bif true then r_28 == (0 : Int) else false)) [] []))
         ((false = false) ∧
          (k (AV.bool false) [] [])))
       ((false = false) ∧
        (false = false) ∧
        (k (AV.bool false) [] [])))
     ((false = false) ∧
      (false = false) ∧
      (false = false) ∧
      (k (AV.bool false) [] [])))
   ((false = false) ∧
    (false = false) ∧
    (false = false) ∧
    (false = false) ∧
    (k (AV.bool false) [] [])) := by
  have e0 : addI a b = addI b a := by exact add_comm' a b
  have e1 : mulI a b = mulI b a := by exact mul_comm' a b
  have e2 : mulI a 65536 = stopI a := by exact mul_one' a
  have e3 : divQ a 65536 = stopI a ∧ divE 65536 = 0 := by exact div_one' a
  have e4 : addI a 0 = stopI a := by exact add_zero' a
  have e5 : subI a a = 0 := by exact sub_self' a
  have e6 : mulI a 0 = 0 := by exact mul_zero' a
  refine ⟨by exact ⟨by assumption, by assumption⟩, ?_⟩ -- (-9223372036854775808 : Int) ≤ a ∧ a ≤ (9223372036854775807 : Int)
  refine ⟨by omega, ?_⟩ -- (-9223372036854775808 : Int) ≤ (0 : Int) ∧ (0 : Int) ≤ (9223372036854775807 : Int)
  intro r_1
  intro h1 -- r_1 = addI a (0 : Int)
  intro ⟨a2, b2⟩ -- (-70368744177664 : Int) ≤ r_1 ∧ r_1 ≤ (70368744177664 : Int)
  refine ⟨by exact ⟨by assumption, by assumption⟩, ?_⟩ -- (-9223372036854775808 : Int) ≤ a ∧ a ≤ (9223372036854775807 : Int)
  refine ⟨by omega, ?_⟩ -- (-9223372036854775808 : Int) ≤ (65536 : Int) ∧ (65536 : Int) ≤ (9223372036854775807 : Int)
  intro q_4
  intro e_5
  intro h3 -- q_4 = divQ a (65536 : Int)
  intro h4 -- e_5 = divE (65536 : Int)
  intro ⟨a5, b5⟩ -- (-70368744177664 : Int) ≤ q_4 ∧ q_4 ≤ (70368744177664 : Int)
  intro h6 -- e_5 = (0 : Int) ∨ e_5 = (10 : Int)
  refine ⟨by exact ⟨by assumption, by assumption⟩, ?_⟩ -- (-9223372036854775808 : Int) ≤ a ∧ a ≤ (9223372036854775807 : Int)
  refine ⟨by exact ⟨by assumption, by assumption⟩, ?_⟩ -- (-9223372036854775808 : Int) ≤ b ∧ b ≤ (9223372036854775807 : Int)
  intro r_10
  intro h7 -- r_10 = addI a b
  intro ⟨a8, b8⟩ -- (-70368744177664 : Int) ≤ r_10 ∧ r_10 ≤ (70368744177664 : Int)
  refine ⟨by exact ⟨by assumption, by assumption⟩, ?_⟩ -- (-9223372036854775808 : Int) ≤ b ∧ b ≤ (9223372036854775807 : Int)
  refine ⟨by exact ⟨by assumption, by assumption⟩, ?_⟩ -- (-9223372036854775808 : Int) ≤ a ∧ a ≤ (9223372036854775807 : Int)
  intro r_13
  intro h9 -- r_13 = addI b a
  intro ⟨a10, b10⟩ -- (-70368744177664 : Int) ≤ r_13 ∧ r_13 ≤ (70368744177664 : Int)
  refine br_intro (fun c11 => ?_) (fun c11 => ?_) -- bif true then r_10 == r_13 else false
  · -- yes
    simp at c11 -- r_10 = r_13
    refine ⟨by exact ⟨by assumption, by assumption⟩, ?_⟩ -- (-9223372036854775808 : Int) ≤ a ∧ a ≤ (9223372036854775807 : Int)
    refine ⟨by exact ⟨by assumption, by assumption⟩, ?_⟩ -- (-9223372036854775808 : Int) ≤ b ∧ b ≤ (9223372036854775807 : Int)
    intro r_16
    intro h12 -- r_16 = mulI a b
    intro ⟨a13, b13⟩ -- (-70368744177664 : Int) ≤ r_16 ∧ r_16 ≤ (70368744177664 : Int)
    refine ⟨by exact ⟨by assumption, by assumption⟩, ?_⟩ -- (-9223372036854775808 : Int) ≤ b ∧ b ≤ (9223372036854775807 : Int)
    refine ⟨by exact ⟨by assumption, by assumption⟩, ?_⟩ -- (-9223372036854775808 : Int) ≤ a ∧ a ≤ (9223372036854775807 : Int)
    intro r_19
    intro h14 -- r_19 = mulI b a
    intro ⟨a15, b15⟩ -- (-70368744177664 : Int) ≤ r_19 ∧ r_19 ≤ (70368744177664 : Int)
    refine br_intro (fun c16 => ?_) (fun c16 => ?_) -- bif true then r_16 == r_19 else false
    · -- yes
      simp at c16 -- r_16 = r_19
      refine ⟨by exact ⟨by assumption, by assumption⟩, ?_⟩ -- (-9223372036854775808 : Int) ≤ a ∧ a ≤ (9223372036854775807 : Int)
      refine ⟨by omega, ?_⟩ -- (-9223372036854775808 : Int) ≤ (65536 : Int) ∧ (65536 : Int) ≤ (9223372036854775807 : Int)
      intro r_22
      intro h17 -- r_22 = mulI a (65536 : Int)
      intro ⟨a18, b18⟩ -- (-70368744177664 : Int) ≤ r_22 ∧ r_22 ≤ (70368744177664 : Int)
      refine br_intro (fun c19 => ?_) (fun c19 => ?_) -- bif bif bif true then r_22 == r_1 else false then q_4 == r_1 else false then e_5 == (0 : Int) else false
      · -- yes
        simp at c19 -- (r_22 = r_1 ∧ q_4 = r_1) ∧ e_5 = (0 : Int)
        refine ⟨by exact ⟨by assumption, by assumption⟩, ?_⟩ -- (-9223372036854775808 : Int) ≤ a ∧ a ≤ (9223372036854775807 : Int)
        refine ⟨by exact ⟨by assumption, by assumption⟩, ?_⟩ -- (-9223372036854775808 : Int) ≤ a ∧ a ≤ (9223372036854775807 : Int)
        intro r_25
        intro h20 -- r_25 = subI a a
        intro ⟨a21, b21⟩ -- (-70368744177664 : Int) ≤ r_25 ∧ r_25 ≤ (70368744177664 : Int)
        refine br_intro (fun c22 => ?_) (fun c22 => ?_) -- bif true then r_25 == (0 : Int) else false
        · -- yes
          simp at c22 -- r_25 = (0 : Int)
          refine ⟨by exact ⟨by assumption, by assumption⟩, ?_⟩ -- (-9223372036854775808 : Int) ≤ a ∧ a ≤ (9223372036854775807 : Int)
          refine ⟨by omega, ?_⟩ -- (-9223372036854775808 : Int) ≤ (0 : Int) ∧ (0 : Int) ≤ (9223372036854775807 : Int)
          intro r_28
          intro h23 -- r_28 = mulI a (0 : Int)
          intro ⟨a24, b24⟩ -- (-70368744177664 : Int) ≤ r_28 ∧ r_28 ≤ (70368744177664 : Int)
          exact by exact k_true hk (by simp only [*]; simp) -- k (AV.bool (bif true then r_28 == (0 : Int) else false)) [] []
        · -- no
          simp at c22 -- ¬r_25 = (0 : Int)
          refine ⟨by with_reducible rfl, ?_⟩ -- false = false
          exact by (exfalso; omega) -- k (AV.bool false) [] []
      · -- no
        simp at c19 -- r_22 = r_1 → q_4 = r_1 → ¬e_5 = (0 : Int)
        refine ⟨by with_reducible rfl, ?_⟩ -- false = false
        refine ⟨by with_reducible rfl, ?_⟩ -- false = false
        exact by (exfalso; omega) -- k (AV.bool false) [] []
    · -- no
      simp at c16 -- ¬r_16 = r_19
      refine ⟨by with_reducible rfl, ?_⟩ -- false = false
      refine ⟨by with_reducible rfl, ?_⟩ -- false = false
      refine ⟨by with_reducible rfl, ?_⟩ -- false = false
      exact by (exfalso; omega) -- k (AV.bool false) [] []
  · -- no
    simp at c11 -- ¬r_10 = r_13
    refine ⟨by with_reducible rfl, ?_⟩ -- false = false
    refine ⟨by with_reducible rfl, ?_⟩ -- false = false
    refine ⟨by with_reducible rfl, ?_⟩ -- false = false
    refine ⟨by with_reducible rfl, ?_⟩ -- false = false
    exact by (exfalso; omega) -- k (AV.bool false) [] []

theorem fixTwo_ok : Holds Try.prog 5 lawI2 := by
  refine fn_sound (env := mkEnv T2) (tab_ok T2_ok) Try.func5 Try.call5 fun args k h => ?_
  match args, h with
  | [.int .i64 a, .int .i64 b], h => exact ⟨by kernel_rfl, fun _ _ => none, fun _ _ => none, .cast (by kernel_rfl) (fixTwo_vc a h.1.1 h.1.2 b h.2.1.1 h.2.1.2 k h.2.2)⟩
set_option maxHeartbeats 2000000 in
theorem fixNear_vc (a : Int) (a0 : (-9223372036854775808 : Int) ≤ a) (a1 : a ≤ (9223372036854775807 : Int)) (b : Int) (b0 : (-9223372036854775808 : Int) ≤ b) (b1 : b ≤ (9223372036854775807 : Int)) (k : AV → List (Option Blk) → List Blk → Prop) (hk : k (AV.bool true) [] []) :
  br (bif bif bif decide (a < (-1073741824 : Int)) then true else decide (a > (1073741824 : Int)) then true else decide (b < (1 : Int)) then true else decide (b > (1073741824 : Int)))
   ((k (AV.bool true) [] []))
   ((
     ((-9223372036854775808 : Int) ≤ a) ∧
     (a ≤ (9223372036854775807 : Int))) ∧
    (
     ((-9223372036854775808 : Int) ≤ b) ∧
     (b ≤ (9223372036854775807 : Int))) ∧
    ∀ (q_1 : Int),
    ∀ (e_2 : Int),
    (q_1 = divQ a b) →
    (e_2 = divE b) →
    ((-70368744177664 : Int) ≤ q_1 ∧ q_1 ≤ (70368744177664 : Int)) →
    (e_2 = (0 : Int) ∨ e_2 = (10 : Int)) →
    (
     ((-9223372036854775808 : Int) ≤ a) ∧
     (a ≤ (9223372036854775807 : Int))) ∧
    (
     ((-9223372036854775808 : Int) ≤ b) ∧
     (b ≤ (9223372036854775807 : Int))) ∧
    ∀ (r_7 : Int),
    (r_7 = mulI a b) →
    ((-70368744177664 : Int) ≤ r_7 ∧ r_7 ≤ (70368744177664 : Int)) →
    (
     ((-9223372036854775808 : Int) ≤ a) ∧
     (a ≤ (9223372036854775807 : Int))) ∧
    ∀ (r_10 : Int),
    (r_10 = roundI a) →
    ((-1073741824 : Int) ≤ r_10 ∧ r_10 ≤ (1073741824 : Int)) →
    ∀ (n13 : Int),
    (n13 = IntKind.i64.wrap (q_1 * b)) →
    ∀ (n15 : Int),
    (n15 = IntKind.i64.wrap (a * (65536 : Int))) →
    ∀ (n17 : Int),
    (n17 = IntKind.i64.wrap (q_1 + (1 : Int))) →
    ∀ (n19 : Int),
    (n19 = IntKind.i64.wrap (n17 * b)) →
    ∀ (n21 : Int),
    (n21 = IntKind.i64.wrap (a * (65536 : Int))) →
    ∀ (n23 : Int),
    (n23 = IntKind.i64.wrap (r_7 * (65536 : Int))) →
    ∀ (n25 : Int),
    (n25 = IntKind.i64.wrap (a * b)) →
    ∀ (n27 : Int),
    (n27 = IntKind.i64.wrap (r_7 + (1 : Int))) →
    ∀ (n29 : Int),
    (n29 = IntKind.i64.wrap (n27 * (65536 : Int))) →
    ∀ (n31 : Int),
    (n31 = IntKind.i64.wrap (a * b)) →
    ∀ (n33 : Int),
    (n33 = IntKind.i64.wrap (r_10 * (65536 : Int))) →
    ∀ (n35 : Int),
    (n35 = IntKind.i64.wrap (n33 - a)) →
    ∀ (n37 : Int),
    (n37 = IntKind.i64.wrap (r_10 * (65536 : Int))) →
    ∀ (n39 : Int),
    (n39 = IntKind.i64.wrap (a - n37)) →
    br (bif bif bif bif bif bif bif true then e_2 == (0 : Int) else false then decide (n13 ≤ n15) else false then decide (n19 > n21) else false then decide (n23 ≤ n25) else false then decide (n29 > n31) else false then decide (n35 ≤ (32768 : Int)) else false then decide (n39 < (32769 : Int)) else false)
     ((
       ((-9223372036854775808 : Int) ≤ a) ∧
       (a ≤ (9223372036854775807 : Int))) ∧
      ∀ (r_41 : Int),
      (r_41 = ofI a) →
      ((-70368744177664 : Int) ≤ r_41 ∧ r_41 ≤ (70368744177664 : Int)) →
      (
       ((-9223372036854775808 : Int) ≤ r_41) ∧
       (r_41 ≤ (9223372036854775807 : Int))) ∧
      ∀ (r_44 : Int),
      (r_44 = roundI r_41) →
      ((-1073741824 : Int) ≤ r_44 ∧ r_44 ≤ (1073741824 : Int)) →
      (k (AV.bool (bif true then r_44 == a else false)) [] []))
     ((false = false) ∧
      (k (AV.bool false) [] []))) := by
  refine br_intro (fun c1 => ?_) (fun c1 => ?_) -- bif bif bif decide (a < (-1073741824 : Int)) then true else decide (a > (1073741824 : Int)) then true else decide (b < (1 : Int)) then true else decide (b > (1073741824 : Int))
  · -- yes
    simp at c1 -- ((a < (-1073741824 : Int) ∨ (1073741824 : Int) < a) ∨ b < (1 : Int)) ∨ (1073741824 : Int) < b
    exact by exact hk -- k (AV.bool true) [] []
  · -- no
    simp at c1 -- (((-1073741824 : Int) ≤ a ∧ a ≤ (1073741824 : Int)) ∧ (1 : Int) ≤ b) ∧ b ≤ (1073741824 : Int)
    refine ⟨by exact ⟨by assumption, by assumption⟩, ?_⟩ -- (-9223372036854775808 : Int) ≤ a ∧ a ≤ (9223372036854775807 : Int)
    refine ⟨by exact ⟨by assumption, by assumption⟩, ?_⟩ -- (-9223372036854775808 : Int) ≤ b ∧ b ≤ (9223372036854775807 : Int)
    intro q_1
    intro e_2
    intro h2 -- q_1 = divQ a b
    intro h3 -- e_2 = divE b
    intro ⟨a4, b4⟩ -- (-70368744177664 : Int) ≤ q_1 ∧ q_1 ≤ (70368744177664 : Int)
    intro h5 -- e_2 = (0 : Int) ∨ e_2 = (10 : Int)
    have hd : e_2 = 0 ∧ q_1 * b ≤ a * 65536 ∧ a * 65536 < (q_1 + 1) * b ∧ -70368744177664 - 1073741824 ≤ q_1 * b ∧ q_1 * b ≤ 70368744177664 ∧ -70368744177664 - 1073741824 ≤ (q_1 + 1) * b ∧ (q_1 + 1) * b ≤ 70368744177664 + 1073741824 := by (rw [h2, h3]; exact div_near a b (by omega) (by omega) (by omega) (by omega))
    refine ⟨by exact ⟨by assumption, by assumption⟩, ?_⟩ -- (-9223372036854775808 : Int) ≤ a ∧ a ≤ (9223372036854775807 : Int)
    refine ⟨by exact ⟨by assumption, by assumption⟩, ?_⟩ -- (-9223372036854775808 : Int) ≤ b ∧ b ≤ (9223372036854775807 : Int)
    intro r_7
    intro h6 -- r_7 = mulI a b
    have hm : r_7 * 65536 ≤ a * b ∧ a * b < (r_7 + 1) * 65536 ∧ -1152921504606846976 ≤ a * b ∧ a * b ≤ 1152921504606846976 := by (rw [h6]; exact mul_near a b (by omega) (by omega) (by omega) (by omega))
    intro ⟨a7, b7⟩ -- (-70368744177664 : Int) ≤ r_7 ∧ r_7 ≤ (70368744177664 : Int)
    refine ⟨by exact ⟨by assumption, by assumption⟩, ?_⟩ -- (-9223372036854775808 : Int) ≤ a ∧ a ≤ (9223372036854775807 : Int)
    intro r_10
    intro h8 -- r_10 = roundI a
    have hr : r_10 * 65536 - a ≤ 32768 ∧ a - r_10 * 65536 < 32769 ∧ roundI (ofI a) = a := by (rw [h8]; exact round_near a (by omega) (by omega))
    intro ⟨a9, b9⟩ -- (-1073741824 : Int) ≤ r_10 ∧ r_10 ≤ (1073741824 : Int)
    intro n13
    intro q13 -- n13 = IntKind.i64.wrap (q_1 * b)
    rw [IntKind.wrap_i64] at q13
    intro n15
    intro q15 -- n15 = IntKind.i64.wrap (a * (65536 : Int))
    rw [IntKind.wrap_i64] at q15
    intro n17
    intro q17 -- n17 = IntKind.i64.wrap (q_1 + (1 : Int))
    rw [IntKind.wrap_i64] at q17
    have e17 : n17 * b = (q_1 + 1) * b := by (rw [show n17 = q_1 + 1 by omega])
    intro n19
    intro q19 -- n19 = IntKind.i64.wrap (n17 * b)
    rw [IntKind.wrap_i64] at q19
    intro n21
    intro q21 -- n21 = IntKind.i64.wrap (a * (65536 : Int))
    rw [IntKind.wrap_i64] at q21
    intro n23
    intro q23 -- n23 = IntKind.i64.wrap (r_7 * (65536 : Int))
    rw [IntKind.wrap_i64] at q23
    intro n25
    intro q25 -- n25 = IntKind.i64.wrap (a * b)
    rw [IntKind.wrap_i64] at q25
    intro n27
    intro q27 -- n27 = IntKind.i64.wrap (r_7 + (1 : Int))
    rw [IntKind.wrap_i64] at q27
    intro n29
    intro q29 -- n29 = IntKind.i64.wrap (n27 * (65536 : Int))
    rw [IntKind.wrap_i64] at q29
    intro n31
    intro q31 -- n31 = IntKind.i64.wrap (a * b)
    rw [IntKind.wrap_i64] at q31
    intro n33
    intro q33 -- n33 = IntKind.i64.wrap (r_10 * (65536 : Int))
    rw [IntKind.wrap_i64] at q33
    intro n35
    intro q35 -- n35 = IntKind.i64.wrap (n33 - a)
    rw [IntKind.wrap_i64] at q35
    intro n37
    intro q37 -- n37 = IntKind.i64.wrap (r_10 * (65536 : Int))
    rw [IntKind.wrap_i64] at q37
    intro n39
    intro q39 -- n39 = IntKind.i64.wrap (a - n37)
    rw [IntKind.wrap_i64] at q39
    refine br_intro (fun c10 => ?_) (fun c10 => ?_) -- bif bif bif bif bif bif bif true then e_2 == (0 : Int) else false then decide (n13 ≤ n15) else false then decide (n19 > n21) else false then decide (n23 ≤ n25) else false then decide (n29 > n31) else false then decide (n35 ≤ (32768 : Int)) else false then decide (n39 < (32769 : Int)) else false
    · -- yes
      simp at c10 -- (((((e_2 = (0 : Int) ∧ n13 ≤ n15) ∧ n21 < n19) ∧ n23 ≤ n25) ∧ n31 < n29) ∧ n35 ≤ (32768 : Int)) ∧ n39 < (32769 : Int)
      refine ⟨by exact ⟨by assumption, by assumption⟩, ?_⟩ -- (-9223372036854775808 : Int) ≤ a ∧ a ≤ (9223372036854775807 : Int)
      intro r_41
      intro h11 -- r_41 = ofI a
      intro ⟨a12, b12⟩ -- (-70368744177664 : Int) ≤ r_41 ∧ r_41 ≤ (70368744177664 : Int)
      refine ⟨by omega, ?_⟩ -- (-9223372036854775808 : Int) ≤ r_41 ∧ r_41 ≤ (9223372036854775807 : Int)
      intro r_44
      intro h13 -- r_44 = roundI r_41
      intro ⟨a14, b14⟩ -- (-1073741824 : Int) ≤ r_44 ∧ r_44 ≤ (1073741824 : Int)
      exact by exact k_true hk (by simp only [*]; simp) -- k (AV.bool (bif true then r_44 == a else false)) [] []
    · -- no
      simp at c10 -- e_2 = (0 : Int) → n13 ≤ n15 → n21 < n19 → n23 ≤ n25 → n31 < n29 → n35 ≤ (32768 : Int) → (32769 : Int) ≤ n39
      refine ⟨by with_reducible rfl, ?_⟩ -- false = false
      exact by (exfalso; omega) -- k (AV.bool false) [] []

theorem fixNear_ok : Holds Try.prog 6 lawI2 := by
  refine fn_sound (env := mkEnv T2) (tab_ok T2_ok) Try.func6 Try.call6 fun args k h => ?_
  match args, h with
  | [.int .i64 a, .int .i64 b], h => exact ⟨by kernel_rfl, fun _ _ => none, fun _ _ => none, .cast (by kernel_rfl) (fixNear_vc a h.1.1 h.1.2 b h.2.1.1 h.2.1.2 k h.2.2)⟩
set_option maxHeartbeats 2000000 in
theorem fixOrder_vc (a : Int) (a0 : (-9223372036854775808 : Int) ≤ a) (a1 : a ≤ (9223372036854775807 : Int)) (b : Int) (b0 : (-9223372036854775808 : Int) ≤ b) (b1 : b ≤ (9223372036854775807 : Int)) (c : Int) (c0 : (-9223372036854775808 : Int) ≤ c) (c1 : c ≤ (9223372036854775807 : Int)) (k : AV → List (Option Blk) → List Blk → Prop) (hk : k (AV.bool true) [] []) :
  br (decide (a > b))
   (br (decide (c < (0 : Int)))
     ((
       ((-9223372036854775808 : Int) ≤ b) ∧
       (b ≤ (9223372036854775807 : Int))) ∧
      (
       ((-9223372036854775808 : Int) ≤ c) ∧
       (c ≤ (9223372036854775807 : Int))) ∧
      ∀ (r_1 : Int),
      (r_1 = addI b c) →
      ((-70368744177664 : Int) ≤ r_1 ∧ r_1 ≤ (70368744177664 : Int)) →
      (
       ((-9223372036854775808 : Int) ≤ a) ∧
       (a ≤ (9223372036854775807 : Int))) ∧
      (
       ((-9223372036854775808 : Int) ≤ c) ∧
       (c ≤ (9223372036854775807 : Int))) ∧
      ∀ (r_4 : Int),
      (r_4 = addI a c) →
      ((-70368744177664 : Int) ≤ r_4 ∧ r_4 ≤ (70368744177664 : Int)) →
      br (bif true then decide (r_1 ≤ r_4) else false)
       ((
         ((-9223372036854775808 : Int) ≤ b) ∧
         (b ≤ (9223372036854775807 : Int))) ∧
        (
         ((-9223372036854775808 : Int) ≤ c) ∧
         (c ≤ (9223372036854775807 : Int))) ∧
        ∀ (r_7 : Int),
        (r_7 = subI b c) →
        ((-70368744177664 : Int) ≤ r_7 ∧ r_7 ≤ (70368744177664 : Int)) →
        (
         ((-9223372036854775808 : Int) ≤ a) ∧
         (a ≤ (9223372036854775807 : Int))) ∧
        (
         ((-9223372036854775808 : Int) ≤ c) ∧
         (c ≤ (9223372036854775807 : Int))) ∧
        ∀ (r_10 : Int),
        (r_10 = subI a c) →
        ((-70368744177664 : Int) ≤ r_10 ∧ r_10 ≤ (70368744177664 : Int)) →
        br (bif true then decide (r_7 ≤ r_10) else false)
         ((
           ((-9223372036854775808 : Int) ≤ b) ∧
           (b ≤ (9223372036854775807 : Int))) ∧
          (
           ((-9223372036854775808 : Int) ≤ (0 : Int)) ∧
           ((0 : Int) ≤ (9223372036854775807 : Int))) ∧
          ∀ (r_13 : Int),
          (r_13 = mulI b (0 : Int)) →
          ((-70368744177664 : Int) ≤ r_13 ∧ r_13 ≤ (70368744177664 : Int)) →
          (
           ((-9223372036854775808 : Int) ≤ a) ∧
           (a ≤ (9223372036854775807 : Int))) ∧
          (
           ((-9223372036854775808 : Int) ≤ (0 : Int)) ∧
           ((0 : Int) ≤ (9223372036854775807 : Int))) ∧
          ∀ (r_16 : Int),
          (r_16 = mulI a (0 : Int)) →
          ((-70368744177664 : Int) ≤ r_16 ∧ r_16 ≤ (70368744177664 : Int)) →
          br (bif true then decide (r_13 ≤ r_16) else false)
           ((
             ((-9223372036854775808 : Int) ≤ b) ∧
             (b ≤ (9223372036854775807 : Int))) ∧
            ∀ (r_19 : Int),
            (r_19 = roundI b) →
            ((-1073741824 : Int) ≤ r_19 ∧ r_19 ≤ (1073741824 : Int)) →
            (
             ((-9223372036854775808 : Int) ≤ a) ∧
             (a ≤ (9223372036854775807 : Int))) ∧
            ∀ (r_22 : Int),
            (r_22 = roundI a) →
            ((-1073741824 : Int) ≤ r_22 ∧ r_22 ≤ (1073741824 : Int)) →
            (k (AV.bool (bif true then decide (r_19 ≤ r_22) else false)) [] []))
           ((false = false) ∧
            (k (AV.bool false) [] [])))
         ((false = false) ∧
          (false = false) ∧
          (k (AV.bool false) [] [])))
       ((false = false) ∧
        (false = false) ∧
        (false = false) ∧
        (k (AV.bool false) [] [])))
     ((
       ((-9223372036854775808 : Int) ≤ b) ∧
       (b ≤ (9223372036854775807 : Int))) ∧
      (
       ((-9223372036854775808 : Int) ≤ c) ∧
       (c ≤ (9223372036854775807 : Int))) ∧
      ∀ (r_25 : Int),
      (r_25 = addI b c) →
      ((-70368744177664 : Int) ≤ r_25 ∧ r_25 ≤ (70368744177664 : Int)) →
      (
       ((-9223372036854775808 : Int) ≤ a) ∧
       (a ≤ (9223372036854775807 : Int))) ∧
      (
       ((-9223372036854775808 : Int) ≤ c) ∧
       (c ≤ (9223372036854775807 : Int))) ∧
      ∀ (r_28 : Int),
      (r_28 = addI a c) →
      ((-70368744177664 : Int) ≤ r_28 ∧ r_28 ≤ (70368744177664 : Int)) →
      br (bif true then decide (r_25 ≤ r_28) else false)
       ((
         ((-9223372036854775808 : Int) ≤ b) ∧
         (b ≤ (9223372036854775807 : Int))) ∧
        (
         ((-9223372036854775808 : Int) ≤ c) ∧
         (c ≤ (9223372036854775807 : Int))) ∧
        ∀ (r_31 : Int),
        (r_31 = subI b c) →
        ((-70368744177664 : Int) ≤ r_31 ∧ r_31 ≤ (70368744177664 : Int)) →
        (
         ((-9223372036854775808 : Int) ≤ a) ∧
         (a ≤ (9223372036854775807 : Int))) ∧
        (
         ((-9223372036854775808 : Int) ≤ c) ∧
         (c ≤ (9223372036854775807 : Int))) ∧
        ∀ (r_34 : Int),
        (r_34 = subI a c) →
        ((-70368744177664 : Int) ≤ r_34 ∧ r_34 ≤ (70368744177664 : Int)) →
        br (bif true then decide (r_31 ≤ r_34) else false)
         ((
           ((-9223372036854775808 : Int) ≤ b) ∧
           (b ≤ (9223372036854775807 : Int))) ∧
          (
           ((-9223372036854775808 : Int) ≤ c) ∧
           (c ≤ (9223372036854775807 : Int))) ∧
          ∀ (r_37 : Int),
          (r_37 = mulI b c) →
          ((-70368744177664 : Int) ≤ r_37 ∧ r_37 ≤ (70368744177664 : Int)) →
          (
           ((-9223372036854775808 : Int) ≤ a) ∧
           (a ≤ (9223372036854775807 : Int))) ∧
          (
           ((-9223372036854775808 : Int) ≤ c) ∧
           (c ≤ (9223372036854775807 : Int))) ∧
          ∀ (r_40 : Int),
          (r_40 = mulI a c) →
          ((-70368744177664 : Int) ≤ r_40 ∧ r_40 ≤ (70368744177664 : Int)) →
          br (bif true then decide (r_37 ≤ r_40) else false)
           ((
             ((-9223372036854775808 : Int) ≤ b) ∧
             (b ≤ (9223372036854775807 : Int))) ∧
            ∀ (r_43 : Int),
            (r_43 = roundI b) →
            ((-1073741824 : Int) ≤ r_43 ∧ r_43 ≤ (1073741824 : Int)) →
            (
             ((-9223372036854775808 : Int) ≤ a) ∧
             (a ≤ (9223372036854775807 : Int))) ∧
            ∀ (r_46 : Int),
            (r_46 = roundI a) →
            ((-1073741824 : Int) ≤ r_46 ∧ r_46 ≤ (1073741824 : Int)) →
            (k (AV.bool (bif true then decide (r_43 ≤ r_46) else false)) [] []))
           ((false = false) ∧
            (k (AV.bool false) [] [])))
         ((false = false) ∧
          (false = false) ∧
          (k (AV.bool false) [] [])))
       ((false = false) ∧
        (false = false) ∧
        (false = false) ∧
        (k (AV.bool false) [] []))))
   (br (decide (c < (0 : Int)))
     ((
       ((-9223372036854775808 : Int) ≤ a) ∧
       (a ≤ (9223372036854775807 : Int))) ∧
      (
       ((-9223372036854775808 : Int) ≤ c) ∧
       (c ≤ (9223372036854775807 : Int))) ∧
      ∀ (r_49 : Int),
      (r_49 = addI a c) →
      ((-70368744177664 : Int) ≤ r_49 ∧ r_49 ≤ (70368744177664 : Int)) →
      (
       ((-9223372036854775808 : Int) ≤ b) ∧
       (b ≤ (9223372036854775807 : Int))) ∧
      (
       ((-9223372036854775808 : Int) ≤ c) ∧
       (c ≤ (9223372036854775807 : Int))) ∧
      ∀ (r_52 : Int),
      (r_52 = addI b c) →
      ((-70368744177664 : Int) ≤ r_52 ∧ r_52 ≤ (70368744177664 : Int)) →
      br (bif true then decide (r_49 ≤ r_52) else false)
       ((
         ((-9223372036854775808 : Int) ≤ a) ∧
         (a ≤ (9223372036854775807 : Int))) ∧
        (
         ((-9223372036854775808 : Int) ≤ c) ∧
         (c ≤ (9223372036854775807 : Int))) ∧
        ∀ (r_55 : Int),
        (r_55 = subI a c) →
        ((-70368744177664 : Int) ≤ r_55 ∧ r_55 ≤ (70368744177664 : Int)) →
        (
         ((-9223372036854775808 : Int) ≤ b) ∧
         (b ≤ (9223372036854775807 : Int))) ∧
        (
         ((-9223372036854775808 : Int) ≤ c) ∧
         (c ≤ (9223372036854775807 : Int))) ∧
        ∀ (r_58 : Int),
        (r_58 = subI b c) →
        ((-70368744177664 : Int) ≤ r_58 ∧ r_58 ≤ (70368744177664 : Int)) →
        br (bif true then decide (r_55 ≤ r_58) else false)
         ((
           ((-9223372036854775808 : Int) ≤ a) ∧
           (a ≤ (9223372036854775807 : Int))) ∧
          (
           ((-9223372036854775808 : Int) ≤ (0 : Int)) ∧
           ((0 : Int) ≤ (9223372036854775807 : Int))) ∧
          ∀ (r_61 : Int),
          (r_61 = mulI a (0 : Int)) →
          ((-70368744177664 : Int) ≤ r_61 ∧ r_61 ≤ (70368744177664 : Int)) →
          (
           ((-9223372036854775808 : Int) ≤ b) ∧
           (b ≤ (9223372036854775807 : Int))) ∧
          (
           ((-9223372036854775808 : Int) ≤ (0 : Int)) ∧
           ((0 : Int) ≤ (9223372036854775807 : Int))) ∧
          ∀ (r_64 : Int),
          (r_64 = mulI b (0 : Int)) →
          ((-70368744177664 : Int) ≤ r_64 ∧ r_64 ≤ (70368744177664 : Int)) →
          br (bif true then decide (r_61 ≤ r_64) else false)
           ((
             ((-9223372036854775808 : Int) ≤ a) ∧
             (a ≤ (9223372036854775807 : Int))) ∧
            ∀ (r_67 : Int),
            (r_67 = roundI a) →
            ((-1073741824 : Int) ≤ r_67 ∧ r_67 ≤ (1073741824 : Int)) →
            (
             ((-9223372036854775808 : Int) ≤ b) ∧
             (b ≤ (9223372036854775807 : Int))) ∧
            ∀ (r_70 : Int),
            (r_70 = roundI b) →
            ((-1073741824 : Int) ≤ r_70 ∧ r_70 ≤ (1073741824 : Int)) →
            (k (AV.bool (bif true then decide (r_67 ≤ r_70) else false)) [] []))
           ((false = false) ∧
            (k (AV.bool false) [] [])))
         ((false = false) ∧
          (false = false) ∧
          (k (AV.bool false) [] [])))
       ((false = false) ∧
        (false = false) ∧
        (false = false) ∧
        (k (AV.bool false) [] [])))
     ((
       ((-9223372036854775808 : Int) ≤ a) ∧
       (a ≤ (9223372036854775807 : Int))) ∧
      (
       ((-9223372036854775808 : Int) ≤ c) ∧
       (c ≤ (9223372036854775807 : Int))) ∧
      ∀ (r_73 : Int),
      (r_73 = addI a c) →
      ((-70368744177664 : Int) ≤ r_73 ∧ r_73 ≤ (70368744177664 : Int)) →
      (
       ((-9223372036854775808 : Int) ≤ b) ∧
       (b ≤ (9223372036854775807 : Int))) ∧
      (
       ((-9223372036854775808 : Int) ≤ c) ∧
       (c ≤ (9223372036854775807 : Int))) ∧
      ∀ (r_76 : Int),
      (r_76 = addI b c) →
      ((-70368744177664 : Int) ≤ r_76 ∧ r_76 ≤ (70368744177664 : Int)) →
      br (bif true then decide (r_73 ≤ r_76) else false)
       ((
         ((-9223372036854775808 : Int) ≤ a) ∧
         (a ≤ (9223372036854775807 : Int))) ∧
        (
         ((-9223372036854775808 : Int) ≤ c) ∧
         (c ≤ (9223372036854775807 : Int))) ∧
        ∀ (r_79 : Int),
        (r_79 = subI a c) →
        ((-70368744177664 : Int) ≤ r_79 ∧ r_79 ≤ (70368744177664 : Int)) →
        (
         ((-9223372036854775808 : Int) ≤ b) ∧
         (b ≤ (9223372036854775807 : Int))) ∧
        (
         ((-9223372036854775808 : Int) ≤ c) ∧
         (c ≤ (9223372036854775807 : Int))) ∧
        ∀ (r_82 : Int),
        (r_82 = subI b c) →
        ((-70368744177664 : Int) ≤ r_82 ∧ r_82 ≤ (70368744177664 : Int)) →
        br (bif true then decide (r_79 ≤ r_82) else false)
         ((
           ((-9223372036854775808 : Int) ≤ a) ∧
           (a ≤ (9223372036854775807 : Int))) ∧
          (
           ((-9223372036854775808 : Int) ≤ c) ∧
           (c ≤ (9223372036854775807 : Int))) ∧
          ∀ (r_85 : Int),
          (r_85 = mulI a c) →
          ((-70368744177664 : Int) ≤ r_85 ∧ r_85 ≤ (70368744177664 : Int)) →
          (
           ((-9223372036854775808 : Int) ≤ b) ∧
           (b ≤ (9223372036854775807 : Int))) ∧
          (
           ((-9223372036854775808 : Int) ≤ c) ∧
           (c ≤ (9223372036854775807 : Int))) ∧
          ∀ (r_88 : Int),
          (r_88 = mulI b c) →
          ((-70368744177664 : Int) ≤ r_88 ∧ r_88 ≤ (70368744177664 : Int)) →
          br (bif true then decide (r_85 ≤ r_88) else false)
           ((
             ((-9223372036854775808 : Int) ≤ a) ∧
             (a ≤ (9223372036854775807 : Int))) ∧
            ∀ (r_91 : Int),
            (r_91 = roundI a) →
            ((-1073741824 : Int) ≤ r_91 ∧ r_91 ≤ (1073741824 : Int)) →
            (
             ((-9223372036854775808 : Int) ≤ b) ∧
             (b ≤ (9223372036854775807 : Int))) ∧
            ∀ (r_94 : Int),
            (r_94 = roundI b) →
            ((-1073741824 : Int) ≤ r_94 ∧ r_94 ≤ (1073741824 : Int)) →
            (k (AV.bool (bif true then decide (r_91 ≤ r_94) else false)) [] []))
           ((false = false) ∧
            (k (AV.bool false) [] [])))
         ((false = false) ∧
          (false = false) ∧
          (k (AV.bool false) [] [])))
       ((false = false) ∧
        (false = false) ∧
        (false = false) ∧
        (k (AV.bool false) [] [])))) := by
  refine brd (fun c1 => ?_) (fun c1 => ?_) -- decide (a > b)
  · -- yes
    refine brd (fun c2 => ?_) (fun c2 => ?_) -- decide (c < (0 : Int))
    · -- yes
      refine ⟨by exact ⟨by assumption, by assumption⟩, ?_⟩ -- (-9223372036854775808 : Int) ≤ b ∧ b ≤ (9223372036854775807 : Int)
      refine ⟨by exact ⟨by assumption, by assumption⟩, ?_⟩ -- (-9223372036854775808 : Int) ≤ c ∧ c ≤ (9223372036854775807 : Int)
      intro r_1
      intro h3 -- r_1 = addI b c
      intro ⟨a4, b4⟩ -- (-70368744177664 : Int) ≤ r_1 ∧ r_1 ≤ (70368744177664 : Int)
      refine ⟨by exact ⟨by assumption, by assumption⟩, ?_⟩ -- (-9223372036854775808 : Int) ≤ a ∧ a ≤ (9223372036854775807 : Int)
      refine ⟨by exact ⟨by assumption, by assumption⟩, ?_⟩ -- (-9223372036854775808 : Int) ≤ c ∧ c ≤ (9223372036854775807 : Int)
      intro r_4
      intro h5 -- r_4 = addI a c
      intro ⟨a6, b6⟩ -- (-70368744177664 : Int) ≤ r_4 ∧ r_4 ≤ (70368744177664 : Int)
      refine br_intro (fun c7 => ?_) (fun c7 => ?_) -- bif true then decide (r_1 ≤ r_4) else false
      · -- yes
        simp at c7 -- r_1 ≤ r_4
        refine ⟨by exact ⟨by assumption, by assumption⟩, ?_⟩ -- (-9223372036854775808 : Int) ≤ b ∧ b ≤ (9223372036854775807 : Int)
        refine ⟨by exact ⟨by assumption, by assumption⟩, ?_⟩ -- (-9223372036854775808 : Int) ≤ c ∧ c ≤ (9223372036854775807 : Int)
        intro r_7
        intro h8 -- r_7 = subI b c
        intro ⟨a9, b9⟩ -- (-70368744177664 : Int) ≤ r_7 ∧ r_7 ≤ (70368744177664 : Int)
        refine ⟨by exact ⟨by assumption, by assumption⟩, ?_⟩ -- (-9223372036854775808 : Int) ≤ a ∧ a ≤ (9223372036854775807 : Int)
        refine ⟨by exact ⟨by assumption, by assumption⟩, ?_⟩ -- (-9223372036854775808 : Int) ≤ c ∧ c ≤ (9223372036854775807 : Int)
        intro r_10
        intro h10 -- r_10 = subI a c
        intro ⟨a11, b11⟩ -- (-70368744177664 : Int) ≤ r_10 ∧ r_10 ≤ (70368744177664 : Int)
        refine br_intro (fun c12 => ?_) (fun c12 => ?_) -- bif true then decide (r_7 ≤ r_10) else false
        · -- yes
          simp at c12 -- r_7 ≤ r_10
          refine ⟨by exact ⟨by assumption, by assumption⟩, ?_⟩ -- (-9223372036854775808 : Int) ≤ b ∧ b ≤ (9223372036854775807 : Int)
          refine ⟨by omega, ?_⟩ -- (-9223372036854775808 : Int) ≤ (0 : Int) ∧ (0 : Int) ≤ (9223372036854775807 : Int)
          intro r_13
          intro h13 -- r_13 = mulI b (0 : Int)
          intro ⟨a14, b14⟩ -- (-70368744177664 : Int) ≤ r_13 ∧ r_13 ≤ (70368744177664 : Int)
          refine ⟨by exact ⟨by assumption, by assumption⟩, ?_⟩ -- (-9223372036854775808 : Int) ≤ a ∧ a ≤ (9223372036854775807 : Int)
          refine ⟨by omega, ?_⟩ -- (-9223372036854775808 : Int) ≤ (0 : Int) ∧ (0 : Int) ≤ (9223372036854775807 : Int)
          intro r_16
          intro h15 -- r_16 = mulI a (0 : Int)
          intro ⟨a16, b16⟩ -- (-70368744177664 : Int) ≤ r_16 ∧ r_16 ≤ (70368744177664 : Int)
          refine br_intro (fun c17 => ?_) (fun c17 => ?_) -- bif true then decide (r_13 ≤ r_16) else false
          · -- yes
            simp at c17 -- r_13 ≤ r_16
            refine ⟨by exact ⟨by assumption, by assumption⟩, ?_⟩ -- (-9223372036854775808 : Int) ≤ b ∧ b ≤ (9223372036854775807 : Int)
            intro r_19
            intro h18 -- r_19 = roundI b
            intro ⟨a19, b19⟩ -- (-1073741824 : Int) ≤ r_19 ∧ r_19 ≤ (1073741824 : Int)
            refine ⟨by exact ⟨by assumption, by assumption⟩, ?_⟩ -- (-9223372036854775808 : Int) ≤ a ∧ a ≤ (9223372036854775807 : Int)
            intro r_22
            intro h20 -- r_22 = roundI a
            intro ⟨a21, b21⟩ -- (-1073741824 : Int) ≤ r_22 ∧ r_22 ≤ (1073741824 : Int)
            exact by exact k_true hk (by have f1 := add_mono c (show b ≤ a by omega); have f2 := sub_mono c (show b ≤ a by omega); have f3 := round_mono (show b ≤ a by omega); have f4 := mul_mono 0 (show b ≤ a by omega) (by omega); simp; omega) -- k (AV.bool (bif true then decide (r_19 ≤ r_22) else false)) [] []
          · -- no
            simp at c17 -- r_16 < r_13
            refine ⟨by with_reducible rfl, ?_⟩ -- false = false
            exact by (exfalso; have f1 := add_mono c (show b ≤ a by omega); have f2 := sub_mono c (show b ≤ a by omega); have f3 := round_mono (show b ≤ a by omega); have f4 := mul_mono 0 (show b ≤ a by omega) (by omega); have f5 := mul_mono c (show b ≤ a by omega) (by omega); omega) -- k (AV.bool false) [] []
        · -- no
          simp at c12 -- r_10 < r_7
          refine ⟨by with_reducible rfl, ?_⟩ -- false = false
          refine ⟨by with_reducible rfl, ?_⟩ -- false = false
          exact by (exfalso; have f1 := add_mono c (show b ≤ a by omega); have f2 := sub_mono c (show b ≤ a by omega); have f3 := round_mono (show b ≤ a by omega); have f4 := mul_mono 0 (show b ≤ a by omega) (by omega); have f5 := mul_mono c (show b ≤ a by omega) (by omega); omega) -- k (AV.bool false) [] []
      · -- no
        simp at c7 -- r_4 < r_1
        refine ⟨by with_reducible rfl, ?_⟩ -- false = false
        refine ⟨by with_reducible rfl, ?_⟩ -- false = false
        refine ⟨by with_reducible rfl, ?_⟩ -- false = false
        exact by (exfalso; have f1 := add_mono c (show b ≤ a by omega); have f2 := sub_mono c (show b ≤ a by omega); have f3 := round_mono (show b ≤ a by omega); have f4 := mul_mono 0 (show b ≤ a by omega) (by omega); have f5 := mul_mono c (show b ≤ a by omega) (by omega); omega) -- k (AV.bool false) [] []
    · -- no
      refine ⟨by exact ⟨by assumption, by assumption⟩, ?_⟩ -- (-9223372036854775808 : Int) ≤ b ∧ b ≤ (9223372036854775807 : Int)
      refine ⟨by exact ⟨by assumption, by assumption⟩, ?_⟩ -- (-9223372036854775808 : Int) ≤ c ∧ c ≤ (9223372036854775807 : Int)
      intro r_25
      intro h22 -- r_25 = addI b c
      intro ⟨a23, b23⟩ -- (-70368744177664 : Int) ≤ r_25 ∧ r_25 ≤ (70368744177664 : Int)
      refine ⟨by exact ⟨by assumption, by assumption⟩, ?_⟩ -- (-9223372036854775808 : Int) ≤ a ∧ a ≤ (9223372036854775807 : Int)
      refine ⟨by exact ⟨by assumption, by assumption⟩, ?_⟩ -- (-9223372036854775808 : Int) ≤ c ∧ c ≤ (9223372036854775807 : Int)
      intro r_28
      intro h24 -- r_28 = addI a c
      intro ⟨a25, b25⟩ -- (-70368744177664 : Int) ≤ r_28 ∧ r_28 ≤ (70368744177664 : Int)
      refine br_intro (fun c26 => ?_) (fun c26 => ?_) -- bif true then decide (r_25 ≤ r_28) else false
      · -- yes
        simp at c26 -- r_25 ≤ r_28
        refine ⟨by exact ⟨by assumption, by assumption⟩, ?_⟩ -- (-9223372036854775808 : Int) ≤ b ∧ b ≤ (9223372036854775807 : Int)
        refine ⟨by exact ⟨by assumption, by assumption⟩, ?_⟩ -- (-9223372036854775808 : Int) ≤ c ∧ c ≤ (9223372036854775807 : Int)
        intro r_31
        intro h27 -- r_31 = subI b c
        intro ⟨a28, b28⟩ -- (-70368744177664 : Int) ≤ r_31 ∧ r_31 ≤ (70368744177664 : Int)
        refine ⟨by exact ⟨by assumption, by assumption⟩, ?_⟩ -- (-9223372036854775808 : Int) ≤ a ∧ a ≤ (9223372036854775807 : Int)
        refine ⟨by exact ⟨by assumption, by assumption⟩, ?_⟩ -- (-9223372036854775808 : Int) ≤ c ∧ c ≤ (9223372036854775807 : Int)
        intro r_34
        intro h29 -- r_34 = subI a c
        intro ⟨a30, b30⟩ -- (-70368744177664 : Int) ≤ r_34 ∧ r_34 ≤ (70368744177664 : Int)
        refine br_intro (fun c31 => ?_) (fun c31 => ?_) -- bif true then decide (r_31 ≤ r_34) else false
        · -- yes
          simp at c31 -- r_31 ≤ r_34
          refine ⟨by exact ⟨by assumption, by assumption⟩, ?_⟩ -- (-9223372036854775808 : Int) ≤ b ∧ b ≤ (9223372036854775807 : Int)
          refine ⟨by exact ⟨by assumption, by assumption⟩, ?_⟩ -- (-9223372036854775808 : Int) ≤ c ∧ c ≤ (9223372036854775807 : Int)
          intro r_37
          intro h32 -- r_37 = mulI b c
          intro ⟨a33, b33⟩ -- (-70368744177664 : Int) ≤ r_37 ∧ r_37 ≤ (70368744177664 : Int)
          refine ⟨by exact ⟨by assumption, by assumption⟩, ?_⟩ -- (-9223372036854775808 : Int) ≤ a ∧ a ≤ (9223372036854775807 : Int)
          refine ⟨by exact ⟨by assumption, by assumption⟩, ?_⟩ -- (-9223372036854775808 : Int) ≤ c ∧ c ≤ (9223372036854775807 : Int)
          intro r_40
          intro h34 -- r_40 = mulI a c
          intro ⟨a35, b35⟩ -- (-70368744177664 : Int) ≤ r_40 ∧ r_40 ≤ (70368744177664 : Int)
          refine br_intro (fun c36 => ?_) (fun c36 => ?_) -- bif true then decide (r_37 ≤ r_40) else false
          · -- yes
            simp at c36 -- r_37 ≤ r_40
            refine ⟨by exact ⟨by assumption, by assumption⟩, ?_⟩ -- (-9223372036854775808 : Int) ≤ b ∧ b ≤ (9223372036854775807 : Int)
            intro r_43
            intro h37 -- r_43 = roundI b
            intro ⟨a38, b38⟩ -- (-1073741824 : Int) ≤ r_43 ∧ r_43 ≤ (1073741824 : Int)
            refine ⟨by exact ⟨by assumption, by assumption⟩, ?_⟩ -- (-9223372036854775808 : Int) ≤ a ∧ a ≤ (9223372036854775807 : Int)
            intro r_46
            intro h39 -- r_46 = roundI a
            intro ⟨a40, b40⟩ -- (-1073741824 : Int) ≤ r_46 ∧ r_46 ≤ (1073741824 : Int)
            exact by exact k_true hk (by have f1 := add_mono c (show b ≤ a by omega); have f2 := sub_mono c (show b ≤ a by omega); have f3 := round_mono (show b ≤ a by omega); have f4 := mul_mono 0 (show b ≤ a by omega) (by omega); have f5 := mul_mono c (show b ≤ a by omega) (by omega); simp; omega) -- k (AV.bool (bif true then decide (r_43 ≤ r_46) else false)) [] []
          · -- no
            simp at c36 -- r_40 < r_37
            refine ⟨by with_reducible rfl, ?_⟩ -- false = false
            exact by (exfalso; have f1 := add_mono c (show b ≤ a by omega); have f2 := sub_mono c (show b ≤ a by omega); have f3 := round_mono (show b ≤ a by omega); have f4 := mul_mono 0 (show b ≤ a by omega) (by omega); have f5 := mul_mono c (show b ≤ a by omega) (by omega); omega) -- k (AV.bool false) [] []
        · -- no
          simp at c31 -- r_34 < r_31
          refine ⟨by with_reducible rfl, ?_⟩ -- false = false
          refine ⟨by with_reducible rfl, ?_⟩ -- false = false
          exact by (exfalso; have f1 := add_mono c (show b ≤ a by omega); have f2 := sub_mono c (show b ≤ a by omega); have f3 := round_mono (show b ≤ a by omega); have f4 := mul_mono 0 (show b ≤ a by omega) (by omega); have f5 := mul_mono c (show b ≤ a by omega) (by omega); omega) -- k (AV.bool false) [] []
      · -- no
        simp at c26 -- r_28 < r_25
        refine ⟨by with_reducible rfl, ?_⟩ -- false = false
        refine ⟨by with_reducible rfl, ?_⟩ -- false = false
        refine ⟨by with_reducible rfl, ?_⟩ -- false = false
        exact by (exfalso; have f1 := add_mono c (show b ≤ a by omega); have f2 := sub_mono c (show b ≤ a by omega); have f3 := round_mono (show b ≤ a by omega); have f4 := mul_mono 0 (show b ≤ a by omega) (by omega); have f5 := mul_mono c (show b ≤ a by omega) (by omega); omega) -- k (AV.bool false) [] []
  · -- no
    refine brd (fun c41 => ?_) (fun c41 => ?_) -- decide (c < (0 : Int))
    · -- yes
      refine ⟨by exact ⟨by assumption, by assumption⟩, ?_⟩ -- (-9223372036854775808 : Int) ≤ a ∧ a ≤ (9223372036854775807 : Int)
      refine ⟨by exact ⟨by assumption, by assumption⟩, ?_⟩ -- (-9223372036854775808 : Int) ≤ c ∧ c ≤ (9223372036854775807 : Int)
      intro r_49
      intro h42 -- r_49 = addI a c
      intro ⟨a43, b43⟩ -- (-70368744177664 : Int) ≤ r_49 ∧ r_49 ≤ (70368744177664 : Int)
      refine ⟨by exact ⟨by assumption, by assumption⟩, ?_⟩ -- (-9223372036854775808 : Int) ≤ b ∧ b ≤ (9223372036854775807 : Int)
      refine ⟨by exact ⟨by assumption, by assumption⟩, ?_⟩ -- (-9223372036854775808 : Int) ≤ c ∧ c ≤ (9223372036854775807 : Int)
      intro r_52
      intro h44 -- r_52 = addI b c
      intro ⟨a45, b45⟩ -- (-70368744177664 : Int) ≤ r_52 ∧ r_52 ≤ (70368744177664 : Int)
      refine br_intro (fun c46 => ?_) (fun c46 => ?_) -- bif true then decide (r_49 ≤ r_52) else false
      · -- yes
        simp at c46 -- r_49 ≤ r_52
        refine ⟨by exact ⟨by assumption, by assumption⟩, ?_⟩ -- (-9223372036854775808 : Int) ≤ a ∧ a ≤ (9223372036854775807 : Int)
        refine ⟨by exact ⟨by assumption, by assumption⟩, ?_⟩ -- (-9223372036854775808 : Int) ≤ c ∧ c ≤ (9223372036854775807 : Int)
        intro r_55
        intro h47 -- r_55 = subI a c
        intro ⟨a48, b48⟩ -- (-70368744177664 : Int) ≤ r_55 ∧ r_55 ≤ (70368744177664 : Int)
        refine ⟨by exact ⟨by assumption, by assumption⟩, ?_⟩ -- (-9223372036854775808 : Int) ≤ b ∧ b ≤ (9223372036854775807 : Int)
        refine ⟨by exact ⟨by assumption, by assumption⟩, ?_⟩ -- (-9223372036854775808 : Int) ≤ c ∧ c ≤ (9223372036854775807 : Int)
        intro r_58
        intro h49 -- r_58 = subI b c
        intro ⟨a50, b50⟩ -- (-70368744177664 : Int) ≤ r_58 ∧ r_58 ≤ (70368744177664 : Int)
        refine br_intro (fun c51 => ?_) (fun c51 => ?_) -- bif true then decide (r_55 ≤ r_58) else false
        · -- yes
          simp at c51 -- r_55 ≤ r_58
          refine ⟨by exact ⟨by assumption, by assumption⟩, ?_⟩ -- (-9223372036854775808 : Int) ≤ a ∧ a ≤ (9223372036854775807 : Int)
          refine ⟨by omega, ?_⟩ -- (-9223372036854775808 : Int) ≤ (0 : Int) ∧ (0 : Int) ≤ (9223372036854775807 : Int)
          intro r_61
          intro h52 -- r_61 = mulI a (0 : Int)
          intro ⟨a53, b53⟩ -- (-70368744177664 : Int) ≤ r_61 ∧ r_61 ≤ (70368744177664 : Int)
          refine ⟨by exact ⟨by assumption, by assumption⟩, ?_⟩ -- (-9223372036854775808 : Int) ≤ b ∧ b ≤ (9223372036854775807 : Int)
          refine ⟨by omega, ?_⟩ -- (-9223372036854775808 : Int) ≤ (0 : Int) ∧ (0 : Int) ≤ (9223372036854775807 : Int)
          intro r_64
          intro h54 -- r_64 = mulI b (0 : Int)
          intro ⟨a55, b55⟩ -- (-70368744177664 : Int) ≤ r_64 ∧ r_64 ≤ (70368744177664 : Int)
          refine br_intro (fun c56 => ?_) (fun c56 => ?_) -- bif true then decide (r_61 ≤ r_64) else false
          · -- yes
            simp at c56 -- r_61 ≤ r_64
            refine ⟨by exact ⟨by assumption, by assumption⟩, ?_⟩ -- (-9223372036854775808 : Int) ≤ a ∧ a ≤ (9223372036854775807 : Int)
            intro r_67
            intro h57 -- r_67 = roundI a
            intro ⟨a58, b58⟩ -- (-1073741824 : Int) ≤ r_67 ∧ r_67 ≤ (1073741824 : Int)
            refine ⟨by exact ⟨by assumption, by assumption⟩, ?_⟩ -- (-9223372036854775808 : Int) ≤ b ∧ b ≤ (9223372036854775807 : Int)
            intro r_70
            intro h59 -- r_70 = roundI b
            intro ⟨a60, b60⟩ -- (-1073741824 : Int) ≤ r_70 ∧ r_70 ≤ (1073741824 : Int)
            exact by exact k_true hk (by have f1 := add_mono c (show a ≤ b by omega); have f2 := sub_mono c (show a ≤ b by omega); have f3 := round_mono (show a ≤ b by omega); have f4 := mul_mono 0 (show a ≤ b by omega) (by omega); simp; omega) -- k (AV.bool (bif true then decide (r_67 ≤ r_70) else false)) [] []
          · -- no
            simp at c56 -- r_64 < r_61
            refine ⟨by with_reducible rfl, ?_⟩ -- false = false
            exact by (exfalso; have f1 := add_mono c (show a ≤ b by omega); have f2 := sub_mono c (show a ≤ b by omega); have f3 := round_mono (show a ≤ b by omega); have f4 := mul_mono 0 (show a ≤ b by omega) (by omega); have f5 := mul_mono c (show a ≤ b by omega) (by omega); omega) -- k (AV.bool false) [] []
        · -- no
          simp at c51 -- r_58 < r_55
          refine ⟨by with_reducible rfl, ?_⟩ -- false = false
          refine ⟨by with_reducible rfl, ?_⟩ -- false = false
          exact by (exfalso; have f1 := add_mono c (show a ≤ b by omega); have f2 := sub_mono c (show a ≤ b by omega); have f3 := round_mono (show a ≤ b by omega); have f4 := mul_mono 0 (show a ≤ b by omega) (by omega); have f5 := mul_mono c (show a ≤ b by omega) (by omega); omega) -- k (AV.bool false) [] []
      · -- no
        simp at c46 -- r_52 < r_49
        refine ⟨by with_reducible rfl, ?_⟩ -- false = false
        refine ⟨by with_reducible rfl, ?_⟩ -- false = false
        refine ⟨by with_reducible rfl, ?_⟩ -- false = false
        exact by (exfalso; have f1 := add_mono c (show a ≤ b by omega); have f2 := sub_mono c (show a ≤ b by omega); have f3 := round_mono (show a ≤ b by omega); have f4 := mul_mono 0 (show a ≤ b by omega) (by omega); have f5 := mul_mono c (show a ≤ b by omega) (by omega); omega) -- k (AV.bool false) [] []
    · -- no
      refine ⟨by exact ⟨by assumption, by assumption⟩, ?_⟩ -- (-9223372036854775808 : Int) ≤ a ∧ a ≤ (9223372036854775807 : Int)
      refine ⟨by exact ⟨by assumption, by assumption⟩, ?_⟩ -- (-9223372036854775808 : Int) ≤ c ∧ c ≤ (9223372036854775807 : Int)
      intro r_73
      intro h61 -- r_73 = addI a c
      intro ⟨a62, b62⟩ -- (-70368744177664 : Int) ≤ r_73 ∧ r_73 ≤ (70368744177664 : Int)
      refine ⟨by exact ⟨by assumption, by assumption⟩, ?_⟩ -- (-9223372036854775808 : Int) ≤ b ∧ b ≤ (9223372036854775807 : Int)
      refine ⟨by exact ⟨by assumption, by assumption⟩, ?_⟩ -- (-9223372036854775808 : Int) ≤ c ∧ c ≤ (9223372036854775807 : Int)
      intro r_76
      intro h63 -- r_76 = addI b c
      intro ⟨a64, b64⟩ -- (-70368744177664 : Int) ≤ r_76 ∧ r_76 ≤ (70368744177664 : Int)
      refine br_intro (fun c65 => ?_) (fun c65 => ?_) -- bif true then decide (r_73 ≤ r_76) else false
      · -- yes
        simp at c65 -- r_73 ≤ r_76
        refine ⟨by exact ⟨by assumption, by assumption⟩, ?_⟩ -- (-9223372036854775808 : Int) ≤ a ∧ a ≤ (9223372036854775807 : Int)
        refine ⟨by exact ⟨by assumption, by assumption⟩, ?_⟩ -- (-9223372036854775808 : Int) ≤ c ∧ c ≤ (9223372036854775807 : Int)
        intro r_79
        intro h66 -- r_79 = subI a c
        intro ⟨a67, b67⟩ -- (-70368744177664 : Int) ≤ r_79 ∧ r_79 ≤ (70368744177664 : Int)
        refine ⟨by exact ⟨by assumption, by assumption⟩, ?_⟩ -- (-9223372036854775808 : Int) ≤ b ∧ b ≤ (9223372036854775807 : Int)
        refine ⟨by exact ⟨by assumption, by assumption⟩, ?_⟩ -- (-9223372036854775808 : Int) ≤ c ∧ c ≤ (9223372036854775807 : Int)
        intro r_82
        intro h68 -- r_82 = subI b c
        intro ⟨a69, b69⟩ -- (-70368744177664 : Int) ≤ r_82 ∧ r_82 ≤ (70368744177664 : Int)
        refine br_intro (fun c70 => ?_) (fun c70 => ?_) -- bif true then decide (r_79 ≤ r_82) else false
        · -- yes
          simp at c70 -- r_79 ≤ r_82
          refine ⟨by exact ⟨by assumption, by assumption⟩, ?_⟩ -- (-9223372036854775808 : Int) ≤ a ∧ a ≤ (9223372036854775807 : Int)
          refine ⟨by exact ⟨by assumption, by assumption⟩, ?_⟩ -- (-9223372036854775808 : Int) ≤ c ∧ c ≤ (9223372036854775807 : Int)
          intro r_85
          intro h71 -- r_85 = mulI a c
          intro ⟨a72, b72⟩ -- (-70368744177664 : Int) ≤ r_85 ∧ r_85 ≤ (70368744177664 : Int)
          refine ⟨by exact ⟨by assumption, by assumption⟩, ?_⟩ -- (-9223372036854775808 : Int) ≤ b ∧ b ≤ (9223372036854775807 : Int)
          refine ⟨by exact ⟨by assumption, by assumption⟩, ?_⟩ -- (-9223372036854775808 : Int) ≤ c ∧ c ≤ (9223372036854775807 : Int)
          intro r_88
          intro h73 -- r_88 = mulI b c
          intro ⟨a74, b74⟩ -- (-70368744177664 : Int) ≤ r_88 ∧ r_88 ≤ (70368744177664 : Int)
          refine br_intro (fun c75 => ?_) (fun c75 => ?_) -- bif true then decide (r_85 ≤ r_88) else false
          · -- yes
            simp at c75 -- r_85 ≤ r_88
            refine ⟨by exact ⟨by assumption, by assumption⟩, ?_⟩ -- (-9223372036854775808 : Int) ≤ a ∧ a ≤ (9223372036854775807 : Int)
            intro r_91
            intro h76 -- r_91 = roundI a
            intro ⟨a77, b77⟩ -- (-1073741824 : Int) ≤ r_91 ∧ r_91 ≤ (1073741824 : Int)
            refine ⟨by exact ⟨by assumption, by assumption⟩, ?_⟩ -- (-9223372036854775808 : Int) ≤ b ∧ b ≤ (9223372036854775807 : Int)
            intro r_94
            intro h78 -- r_94 = roundI b
            intro ⟨a79, b79⟩ -- (-1073741824 : Int) ≤ r_94 ∧ r_94 ≤ (1073741824 : Int)
            exact by exact k_true hk (by have f1 := add_mono c (show a ≤ b by omega); have f2 := sub_mono c (show a ≤ b by omega); have f3 := round_mono (show a ≤ b by omega); have f4 := mul_mono 0 (show a ≤ b by omega) (by omega); have f5 := mul_mono c (show a ≤ b by omega) (by omega); simp; omega) -- k (AV.bool (bif true then decide (r_91 ≤ r_94) else false)) [] []
          · -- no
            simp at c75 -- r_88 < r_85
            refine ⟨by with_reducible rfl, ?_⟩ -- false = false
            exact by (exfalso; have f1 := add_mono c (show a ≤ b by omega); have f2 := sub_mono c (show a ≤ b by omega); have f3 := round_mono (show a ≤ b by omega); have f4 := mul_mono 0 (show a ≤ b by omega) (by omega); have f5 := mul_mono c (show a ≤ b by omega) (by omega); omega) -- k (AV.bool false) [] []
        · -- no
          simp at c70 -- r_82 < r_79
          refine ⟨by with_reducible rfl, ?_⟩ -- false = false
          refine ⟨by with_reducible rfl, ?_⟩ -- false = false
          exact by (exfalso; have f1 := add_mono c (show a ≤ b by omega); have f2 := sub_mono c (show a ≤ b by omega); have f3 := round_mono (show a ≤ b by omega); have f4 := mul_mono 0 (show a ≤ b by omega) (by omega); have f5 := mul_mono c (show a ≤ b by omega) (by omega); omega) -- k (AV.bool false) [] []
      · -- no
        simp at c65 -- r_76 < r_73
        refine ⟨by with_reducible rfl, ?_⟩ -- false = false
        refine ⟨by with_reducible rfl, ?_⟩ -- false = false
        refine ⟨by with_reducible rfl, ?_⟩ -- false = false
        exact by (exfalso; have f1 := add_mono c (show a ≤ b by omega); have f2 := sub_mono c (show a ≤ b by omega); have f3 := round_mono (show a ≤ b by omega); have f4 := mul_mono 0 (show a ≤ b by omega) (by omega); have f5 := mul_mono c (show a ≤ b by omega) (by omega); omega) -- k (AV.bool false) [] []

theorem fixOrder_ok : Holds Try.prog 7 lawI3 := by
  refine fn_sound (env := mkEnv T2) (tab_ok T2_ok) Try.func7 Try.call7 fun args k h => ?_
  match args, h with
  | [.int .i64 a, .int .i64 b, .int .i64 c], h => exact ⟨by kernel_rfl, fun _ _ => none, fun _ _ => none, .cast (by kernel_rfl) (fixOrder_vc a h.1.1 h.1.2 b h.2.1.1 h.2.1.2 c h.2.2.1.1 h.2.2.1.2 k h.2.2.2)⟩
set_option maxHeartbeats 2000000 in
theorem fixBetween_vc (o : Int) (o0 : (-9223372036854775808 : Int) ≤ o) (o1 : o ≤ (9223372036854775807 : Int)) (n : Int) (n0 : (-9223372036854775808 : Int) ≤ n) (n1 : n ≤ (9223372036854775807 : Int)) (p : Int) (p0 : (-9223372036854775808 : Int) ≤ p) (p1 : p ≤ (9223372036854775807 : Int)) (m : Int) (m0 : (-9223372036854775808 : Int) ≤ m) (m1 : m ≤ (9223372036854775807 : Int)) (k : AV → List (Option Blk) → List Blk → Prop) (hk : k (AV.bool true) [] []) :
  (
   ((-9223372036854775808 : Int) ≤ o) ∧
   (o ≤ (9223372036854775807 : Int))) ∧
  (
   ((-9223372036854775808 : Int) ≤ (0 : Int)) ∧
   ((0 : Int) ≤ (9223372036854775807 : Int))) ∧
  ∀ (r_1 : Int),
  (r_1 = addI o (0 : Int)) →
  ((-70368744177664 : Int) ≤ r_1 ∧ r_1 ≤ (70368744177664 : Int)) →
  (
   ((-9223372036854775808 : Int) ≤ n) ∧
   (n ≤ (9223372036854775807 : Int))) ∧
  (
   ((-9223372036854775808 : Int) ≤ (0 : Int)) ∧
   ((0 : Int) ≤ (9223372036854775807 : Int))) ∧
  ∀ (r_4 : Int),
  (r_4 = addI n (0 : Int)) →
  ((-70368744177664 : Int) ≤ r_4 ∧ r_4 ≤ (70368744177664 : Int)) →
  (
   ((-9223372036854775808 : Int) ≤ o) ∧
   (o ≤ (9223372036854775807 : Int))) ∧
  (
   ((-9223372036854775808 : Int) ≤ n) ∧
   (n ≤ (9223372036854775807 : Int))) ∧
  (
   ((-9223372036854775808 : Int) ≤ p) ∧
   (p ≤ (9223372036854775807 : Int))) ∧
  ∀ (r_7 : Int),
  (r_7 = mixI o n p) →
  ((-70368744177664 : Int) ≤ r_7 ∧ r_7 ≤ (70368744177664 : Int)) →
  br (decide (m < p))
   ((
     ((-9223372036854775808 : Int) ≤ o) ∧
     (o ≤ (9223372036854775807 : Int))) ∧
    (
     ((-9223372036854775808 : Int) ≤ n) ∧
     (n ≤ (9223372036854775807 : Int))) ∧
    (
     ((-9223372036854775808 : Int) ≤ m) ∧
     (m ≤ (9223372036854775807 : Int))) ∧
    ∀ (r_10 : Int),
    (r_10 = mixI o n m) →
    ((-70368744177664 : Int) ≤ r_10 ∧ r_10 ≤ (70368744177664 : Int)) →
    (
     ((-9223372036854775808 : Int) ≤ o) ∧
     (o ≤ (9223372036854775807 : Int))) ∧
    (
     ((-9223372036854775808 : Int) ≤ n) ∧
     (n ≤ (9223372036854775807 : Int))) ∧
    (
     ((-9223372036854775808 : Int) ≤ p) ∧
     (p ≤ (9223372036854775807 : Int))) ∧
    ∀ (r_13 : Int),
    (r_13 = mixI o n p) →
    ((-70368744177664 : Int) ≤ r_13 ∧ r_13 ≤ (70368744177664 : Int)) →
    br (bif true then bif bif bif bif decide (r_1 ≤ r_4) then decide (r_10 ≤ r_13) else false then decide (r_7 ≥ r_1) else false then decide (r_7 ≤ r_4) else false then true else bif bif bif decide (r_4 ≤ r_1) then decide (r_13 ≤ r_10) else false then decide (r_7 ≥ r_4) else false then decide (r_7 ≤ r_1) else false else false)
     ((
       ((-9223372036854775808 : Int) ≤ o) ∧
       (o ≤ (9223372036854775807 : Int))) ∧
      (
       ((-9223372036854775808 : Int) ≤ n) ∧
       (n ≤ (9223372036854775807 : Int))) ∧
      (
       ((-9223372036854775808 : Int) ≤ (0 : Int)) ∧
       ((0 : Int) ≤ (9223372036854775807 : Int))) ∧
      ∀ (r_16 : Int),
      (r_16 = mixI o n (0 : Int)) →
      ((-70368744177664 : Int) ≤ r_16 ∧ r_16 ≤ (70368744177664 : Int)) →
      br (bif true then r_16 == r_1 else false)
       ((
         ((-9223372036854775808 : Int) ≤ o) ∧
         (o ≤ (9223372036854775807 : Int))) ∧
        (
         ((-9223372036854775808 : Int) ≤ n) ∧
         (n ≤ (9223372036854775807 : Int))) ∧
        (
         ((-9223372036854775808 : Int) ≤ (65536 : Int)) ∧
         ((65536 : Int) ≤ (9223372036854775807 : Int))) ∧
        ∀ (r_19 : Int),
        (r_19 = mixI o n (65536 : Int)) →
        ((-70368744177664 : Int) ≤ r_19 ∧ r_19 ≤ (70368744177664 : Int)) →
        (k (AV.bool (bif true then r_19 == r_4 else false)) [] []))
       ((false = false) ∧
        (k (AV.bool false) [] [])))
     ((false = false) ∧
      (false = false) ∧
      (k (AV.bool false) [] [])))
   ((
     ((-9223372036854775808 : Int) ≤ o) ∧
     (o ≤ (9223372036854775807 : Int))) ∧
    (
     ((-9223372036854775808 : Int) ≤ n) ∧
     (n ≤ (9223372036854775807 : Int))) ∧
    (
     ((-9223372036854775808 : Int) ≤ p) ∧
     (p ≤ (9223372036854775807 : Int))) ∧
    ∀ (r_22 : Int),
    (r_22 = mixI o n p) →
    ((-70368744177664 : Int) ≤ r_22 ∧ r_22 ≤ (70368744177664 : Int)) →
    (
     ((-9223372036854775808 : Int) ≤ o) ∧
     (o ≤ (9223372036854775807 : Int))) ∧
    (
     ((-9223372036854775808 : Int) ≤ n) ∧
     (n ≤ (9223372036854775807 : Int))) ∧
    (
     ((-9223372036854775808 : Int) ≤ m) ∧
     (m ≤ (9223372036854775807 : Int))) ∧
    ∀ (r_25 : Int),
    (r_25 = mixI o n m) →
    ((-70368744177664 : Int) ≤ r_25 ∧ r_25 ≤ (70368744177664 : Int)) →
    br (bif true then bif bif bif bif decide (r_1 ≤ r_4) then decide (r_22 ≤ r_25) else false then decide (r_7 ≥ r_1) else false then decide (r_7 ≤ r_4) else false then true else bif bif bif decide (r_4 ≤ r_1) then decide (r_25 ≤ r_22) else false then decide (r_7 ≥ r_4) else false then decide (r_7 ≤ r_1) else false else false)
     ((
       ((-9223372036854775808 : Int) ≤ o) ∧
       (o ≤ (9223372036854775807 : Int))) ∧
      (
       ((-9223372036854775808 : Int) ≤ n) ∧
       (n ≤ (9223372036854775807 : Int))) ∧
      (
       ((-9223372036854775808 : Int) ≤ (0 : Int)) ∧
       ((0 : Int) ≤ (9223372036854775807 : Int))) ∧
      ∀ (r_28 : Int),
      (r_28 = mixI o n (0 : Int)) →
      ((-70368744177664 : Int) ≤ r_28 ∧ r_28 ≤ (70368744177664 : Int)) →
      br (bif true then r_28 == r_1 else false)
       ((
         ((-9223372036854775808 : Int) ≤ o) ∧
         (o ≤ (9223372036854775807 : Int))) ∧
        (
         ((-9223372036854775808 : Int) ≤ n) ∧
         (n ≤ (9223372036854775807 : Int))) ∧
        (
         ((-9223372036854775808 : Int) ≤ (65536 : Int)) ∧
         ((65536 : Int) ≤ (9223372036854775807 : Int))) ∧
        ∀ (r_31 : Int),
        (r_31 = mixI o n (65536 : Int)) →
        ((-70368744177664 : Int) ≤ r_31 ∧ r_31 ≤ (70368744177664 : Int)) →
        (k (AV.bool (bif true then r_31 == r_4 else false)) [] []))
       ((false = false) ∧
        (k (AV.bool false) [] [])))
     ((false = false) ∧
      (false = false) ∧
      (k (AV.bool false) [] []))) := by
  have e1 : addI o 0 = stopI o := by exact add_zero' o
  have e2 : addI n 0 = stopI n := by exact add_zero' n
  have e3 : (stopI o ≤ stopI n → stopI o ≤ mixI o n p ∧ mixI o n p ≤ stopI n) ∧ (stopI n ≤ stopI o → stopI n ≤ mixI o n p ∧ mixI o n p ≤ stopI o) := by exact mix_between o n p
  have e4 : mixI o n 0 = stopI o := by exact mix_zero o n
  have e5 : mixI o n 65536 = stopI n := by exact mix_one o n
  refine ⟨by exact ⟨by assumption, by assumption⟩, ?_⟩ -- (-9223372036854775808 : Int) ≤ o ∧ o ≤ (9223372036854775807 : Int)
  refine ⟨by omega, ?_⟩ -- (-9223372036854775808 : Int) ≤ (0 : Int) ∧ (0 : Int) ≤ (9223372036854775807 : Int)
  intro r_1
  intro h1 -- r_1 = addI o (0 : Int)
  intro ⟨a2, b2⟩ -- (-70368744177664 : Int) ≤ r_1 ∧ r_1 ≤ (70368744177664 : Int)
  refine ⟨by exact ⟨by assumption, by assumption⟩, ?_⟩ -- (-9223372036854775808 : Int) ≤ n ∧ n ≤ (9223372036854775807 : Int)
  refine ⟨by omega, ?_⟩ -- (-9223372036854775808 : Int) ≤ (0 : Int) ∧ (0 : Int) ≤ (9223372036854775807 : Int)
  intro r_4
  intro h3 -- r_4 = addI n (0 : Int)
  intro ⟨a4, b4⟩ -- (-70368744177664 : Int) ≤ r_4 ∧ r_4 ≤ (70368744177664 : Int)
  refine ⟨by exact ⟨by assumption, by assumption⟩, ?_⟩ -- (-9223372036854775808 : Int) ≤ o ∧ o ≤ (9223372036854775807 : Int)
  refine ⟨by exact ⟨by assumption, by assumption⟩, ?_⟩ -- (-9223372036854775808 : Int) ≤ n ∧ n ≤ (9223372036854775807 : Int)
  refine ⟨by exact ⟨by assumption, by assumption⟩, ?_⟩ -- (-9223372036854775808 : Int) ≤ p ∧ p ≤ (9223372036854775807 : Int)
  intro r_7
  intro h5 -- r_7 = mixI o n p
  intro ⟨a6, b6⟩ -- (-70368744177664 : Int) ≤ r_7 ∧ r_7 ≤ (70368744177664 : Int)
  refine brd (fun c7 => ?_) (fun c7 => ?_) -- decide (m < p)
  · -- yes
    have e6 : (stopI o ≤ stopI n → mixI o n m ≤ mixI o n p) ∧ (stopI n ≤ stopI o → mixI o n p ≤ mixI o n m) := by exact mix_mono o n m p (by omega)
    refine ⟨by exact ⟨by assumption, by assumption⟩, ?_⟩ -- (-9223372036854775808 : Int) ≤ o ∧ o ≤ (9223372036854775807 : Int)
    refine ⟨by exact ⟨by assumption, by assumption⟩, ?_⟩ -- (-9223372036854775808 : Int) ≤ n ∧ n ≤ (9223372036854775807 : Int)
    refine ⟨by exact ⟨by assumption, by assumption⟩, ?_⟩ -- (-9223372036854775808 : Int) ≤ m ∧ m ≤ (9223372036854775807 : Int)
    intro r_10
    intro h8 -- r_10 = mixI o n m
    intro ⟨a9, b9⟩ -- (-70368744177664 : Int) ≤ r_10 ∧ r_10 ≤ (70368744177664 : Int)
    refine ⟨by exact ⟨by assumption, by assumption⟩, ?_⟩ -- (-9223372036854775808 : Int) ≤ o ∧ o ≤ (9223372036854775807 : Int)
    refine ⟨by exact ⟨by assumption, by assumption⟩, ?_⟩ -- (-9223372036854775808 : Int) ≤ n ∧ n ≤ (9223372036854775807 : Int)
    refine ⟨by exact ⟨by assumption, by assumption⟩, ?_⟩ -- (-9223372036854775808 : Int) ≤ p ∧ p ≤ (9223372036854775807 : Int)
    intro r_13
    intro h10 -- r_13 = mixI o n p
    intro ⟨a11, b11⟩ -- (-70368744177664 : Int) ≤ r_13 ∧ r_13 ≤ (70368744177664 : Int)
    refine br_intro (fun c12 => ?_) (fun c12 => ?_) -- bif true then bif bif bif bif decide (r_1 ≤ r_4) then decide (r_10 ≤ r_13) else false then decide (r_7 ≥ r_1) else false then decide (r_7 ≤ r_4) else false then true else bif bif bif decide (r_4 ≤ r_1) then decide (r_13 ≤ r_10) else false then decide (r_7 ≥ r_4) else false then decide (r_7 ≤ r_1) else false else false
    · -- yes
      simp at c12 -- ((r_1 ≤ r_4 ∧ r_10 ≤ r_13) ∧ r_1 ≤ r_7) ∧ r_7 ≤ r_4 ∨ ((r_4 ≤ r_1 ∧ r_13 ≤ r_10) ∧ r_4 ≤ r_7) ∧ r_7 ≤ r_1
      refine ⟨by exact ⟨by assumption, by assumption⟩, ?_⟩ -- (-9223372036854775808 : Int) ≤ o ∧ o ≤ (9223372036854775807 : Int)
      refine ⟨by exact ⟨by assumption, by assumption⟩, ?_⟩ -- (-9223372036854775808 : Int) ≤ n ∧ n ≤ (9223372036854775807 : Int)
      refine ⟨by omega, ?_⟩ -- (-9223372036854775808 : Int) ≤ (0 : Int) ∧ (0 : Int) ≤ (9223372036854775807 : Int)
      intro r_16
      intro h13 -- r_16 = mixI o n (0 : Int)
      intro ⟨a14, b14⟩ -- (-70368744177664 : Int) ≤ r_16 ∧ r_16 ≤ (70368744177664 : Int)
      refine br_intro (fun c15 => ?_) (fun c15 => ?_) -- bif true then r_16 == r_1 else false
      · -- yes
        simp at c15 -- r_16 = r_1
        refine ⟨by exact ⟨by assumption, by assumption⟩, ?_⟩ -- (-9223372036854775808 : Int) ≤ o ∧ o ≤ (9223372036854775807 : Int)
        refine ⟨by exact ⟨by assumption, by assumption⟩, ?_⟩ -- (-9223372036854775808 : Int) ≤ n ∧ n ≤ (9223372036854775807 : Int)
        refine ⟨by omega, ?_⟩ -- (-9223372036854775808 : Int) ≤ (65536 : Int) ∧ (65536 : Int) ≤ (9223372036854775807 : Int)
        intro r_19
        intro h16 -- r_19 = mixI o n (65536 : Int)
        intro ⟨a17, b17⟩ -- (-70368744177664 : Int) ≤ r_19 ∧ r_19 ≤ (70368744177664 : Int)
        exact by exact k_true hk (by simp only [*]; simp) -- k (AV.bool (bif true then r_19 == r_4 else false)) [] []
      · -- no
        simp at c15 -- ¬r_16 = r_1
        refine ⟨by with_reducible rfl, ?_⟩ -- false = false
        exact by (exfalso; omega) -- k (AV.bool false) [] []
    · -- no
      simp at c12 -- (r_1 ≤ r_4 → r_10 ≤ r_13 → r_1 ≤ r_7 → r_4 < r_7) ∧ (r_4 ≤ r_1 → r_13 ≤ r_10 → r_4 ≤ r_7 → r_1 < r_7)
      refine ⟨by with_reducible rfl, ?_⟩ -- false = false
      refine ⟨by with_reducible rfl, ?_⟩ -- false = false
      exact by (exfalso; omega) -- k (AV.bool false) [] []
  · -- no
    have e6 : (stopI o ≤ stopI n → mixI o n p ≤ mixI o n m) ∧ (stopI n ≤ stopI o → mixI o n m ≤ mixI o n p) := by exact mix_mono o n p m (by omega)
    refine ⟨by exact ⟨by assumption, by assumption⟩, ?_⟩ -- (-9223372036854775808 : Int) ≤ o ∧ o ≤ (9223372036854775807 : Int)
    refine ⟨by exact ⟨by assumption, by assumption⟩, ?_⟩ -- (-9223372036854775808 : Int) ≤ n ∧ n ≤ (9223372036854775807 : Int)
    refine ⟨by exact ⟨by assumption, by assumption⟩, ?_⟩ -- (-9223372036854775808 : Int) ≤ p ∧ p ≤ (9223372036854775807 : Int)
    intro r_22
    intro h18 -- r_22 = mixI o n p
    intro ⟨a19, b19⟩ -- (-70368744177664 : Int) ≤ r_22 ∧ r_22 ≤ (70368744177664 : Int)
    refine ⟨by exact ⟨by assumption, by assumption⟩, ?_⟩ -- (-9223372036854775808 : Int) ≤ o ∧ o ≤ (9223372036854775807 : Int)
    refine ⟨by exact ⟨by assumption, by assumption⟩, ?_⟩ -- (-9223372036854775808 : Int) ≤ n ∧ n ≤ (9223372036854775807 : Int)
    refine ⟨by exact ⟨by assumption, by assumption⟩, ?_⟩ -- (-9223372036854775808 : Int) ≤ m ∧ m ≤ (9223372036854775807 : Int)
    intro r_25
    intro h20 -- r_25 = mixI o n m
    intro ⟨a21, b21⟩ -- (-70368744177664 : Int) ≤ r_25 ∧ r_25 ≤ (70368744177664 : Int)
    refine br_intro (fun c22 => ?_) (fun c22 => ?_) -- bif true then bif bif bif bif decide (r_1 ≤ r_4) then decide (r_22 ≤ r_25) else false then decide (r_7 ≥ r_1) else false then decide (r_7 ≤ r_4) else false then true else bif bif bif decide (r_4 ≤ r_1) then decide (r_25 ≤ r_22) else false then decide (r_7 ≥ r_4) else false then decide (r_7 ≤ r_1) else false else false
    · -- yes
      simp at c22 -- ((r_1 ≤ r_4 ∧ r_22 ≤ r_25) ∧ r_1 ≤ r_7) ∧ r_7 ≤ r_4 ∨ ((r_4 ≤ r_1 ∧ r_25 ≤ r_22) ∧ r_4 ≤ r_7) ∧ r_7 ≤ r_1
      refine ⟨by exact ⟨by assumption, by assumption⟩, ?_⟩ -- (-9223372036854775808 : Int) ≤ o ∧ o ≤ (9223372036854775807 : Int)
      refine ⟨by exact ⟨by assumption, by assumption⟩, ?_⟩ -- (-9223372036854775808 : Int) ≤ n ∧ n ≤ (9223372036854775807 : Int)
      refine ⟨by omega, ?_⟩ -- (-9223372036854775808 : Int) ≤ (0 : Int) ∧ (0 : Int) ≤ (9223372036854775807 : Int)
      intro r_28
      intro h23 -- r_28 = mixI o n (0 : Int)
      intro ⟨a24, b24⟩ -- (-70368744177664 : Int) ≤ r_28 ∧ r_28 ≤ (70368744177664 : Int)
      refine br_intro (fun c25 => ?_) (fun c25 => ?_) -- bif true then r_28 == r_1 else false
      · -- yes
        simp at c25 -- r_28 = r_1
        refine ⟨by exact ⟨by assumption, by assumption⟩, ?_⟩ -- (-9223372036854775808 : Int) ≤ o ∧ o ≤ (9223372036854775807 : Int)
        refine ⟨by exact ⟨by assumption, by assumption⟩, ?_⟩ -- (-9223372036854775808 : Int) ≤ n ∧ n ≤ (9223372036854775807 : Int)
        refine ⟨by omega, ?_⟩ -- (-9223372036854775808 : Int) ≤ (65536 : Int) ∧ (65536 : Int) ≤ (9223372036854775807 : Int)
        intro r_31
        intro h26 -- r_31 = mixI o n (65536 : Int)
        intro ⟨a27, b27⟩ -- (-70368744177664 : Int) ≤ r_31 ∧ r_31 ≤ (70368744177664 : Int)
        exact by exact k_true hk (by simp only [*]; simp) -- k (AV.bool (bif true then r_31 == r_4 else false)) [] []
      · -- no
        simp at c25 -- ¬r_28 = r_1
        refine ⟨by with_reducible rfl, ?_⟩ -- false = false
        exact by (exfalso; omega) -- k (AV.bool false) [] []
    · -- no
      simp at c22 -- (r_1 ≤ r_4 → r_22 ≤ r_25 → r_1 ≤ r_7 → r_4 < r_7) ∧ (r_4 ≤ r_1 → r_25 ≤ r_22 → r_4 ≤ r_7 → r_1 < r_7)
      refine ⟨by with_reducible rfl, ?_⟩ -- false = false
      refine ⟨by with_reducible rfl, ?_⟩ -- false = false
      exact by (exfalso; omega) -- k (AV.bool false) [] []

theorem fixBetween_ok : Holds Try.prog 8 lawI4 := by
  refine fn_sound (env := mkEnv T2) (tab_ok T2_ok) Try.func8 Try.call8 fun args k h => ?_
  match args, h with
  | [.int .i64 o, .int .i64 n, .int .i64 p, .int .i64 m], h => exact ⟨by kernel_rfl, fun _ _ => none, fun _ _ => none, .cast (by kernel_rfl) (fixBetween_vc o h.1.1 h.1.2 n h.2.1.1 h.2.1.2 p h.2.2.1.1 h.2.2.1.2 m h.2.2.2.1.1 h.2.2.2.1.2 k h.2.2.2.2)⟩
set_option maxHeartbeats 2000000 in
theorem fixBounds_vc (a : Int) (a0 : (-9223372036854775808 : Int) ≤ a) (a1 : a ≤ (9223372036854775807 : Int)) (b : Int) (b0 : (-9223372036854775808 : Int) ≤ b) (b1 : b ≤ (9223372036854775807 : Int)) (c : Int) (c0 : (-9223372036854775808 : Int) ≤ c) (c1 : c ≤ (9223372036854775807 : Int)) (n : Int) (n0 : (-9223372036854775808 : Int) ≤ n) (n1 : n ≤ (9223372036854775807 : Int)) (k : AV → List (Option Blk) → List Blk → Prop) (hk : k (AV.bool true) [] []) :
  (
   ((-9223372036854775808 : Int) ≤ a) ∧
   (a ≤ (9223372036854775807 : Int))) ∧
  (
   ((-9223372036854775808 : Int) ≤ b) ∧
   (b ≤ (9223372036854775807 : Int))) ∧
  ∀ (q_1 : Int),
  ∀ (e_2 : Int),
  (q_1 = divQ a b) →
  (e_2 = divE b) →
  ((-70368744177664 : Int) ≤ q_1 ∧ q_1 ≤ (70368744177664 : Int)) →
  (e_2 = (0 : Int) ∨ e_2 = (10 : Int)) →
  (
   ((-9223372036854775808 : Int) ≤ a) ∧
   (a ≤ (9223372036854775807 : Int))) ∧
  (
   ((-9223372036854775808 : Int) ≤ b) ∧
   (b ≤ (9223372036854775807 : Int))) ∧
  ∀ (r_7 : Int),
  (r_7 = addI a b) →
  ((-70368744177664 : Int) ≤ r_7 ∧ r_7 ≤ (70368744177664 : Int)) →
  (
   ((-9223372036854775808 : Int) ≤ r_7) ∧
   (r_7 ≤ (9223372036854775807 : Int))) ∧
  br (!decide ((-70368744177664 : Int) ≤ r_7 ∧ r_7 ≤ (70368744177664 : Int)))
   ((true = true) ∧
    (true = true) ∧
    (true = true) ∧
    (true = true) ∧
    (true = true) ∧
    (k (AV.bool false) [] []))
   ((
     ((-9223372036854775808 : Int) ≤ a) ∧
     (a ≤ (9223372036854775807 : Int))) ∧
    (
     ((-9223372036854775808 : Int) ≤ b) ∧
     (b ≤ (9223372036854775807 : Int))) ∧
    ∀ (r_10 : Int),
    (r_10 = subI a b) →
    ((-70368744177664 : Int) ≤ r_10 ∧ r_10 ≤ (70368744177664 : Int)) →
    (
     ((-9223372036854775808 : Int) ≤ r_10) ∧
     (r_10 ≤ (9223372036854775807 : Int))) ∧
    br (bif false then true else !decide ((-70368744177664 : Int) ≤ r_10 ∧ r_10 ≤ (70368744177664 : Int)))
     ((true = true) ∧
      (true = true) ∧
      (true = true) ∧
      (true = true) ∧
      (k (AV.bool false) [] []))
     ((
       ((-9223372036854775808 : Int) ≤ a) ∧
       (a ≤ (9223372036854775807 : Int))) ∧
      (
       ((-9223372036854775808 : Int) ≤ b) ∧
       (b ≤ (9223372036854775807 : Int))) ∧
      ∀ (r_13 : Int),
      (r_13 = mulI a b) →
      ((-70368744177664 : Int) ≤ r_13 ∧ r_13 ≤ (70368744177664 : Int)) →
      (
       ((-9223372036854775808 : Int) ≤ r_13) ∧
       (r_13 ≤ (9223372036854775807 : Int))) ∧
      br (bif false then true else !decide ((-70368744177664 : Int) ≤ r_13 ∧ r_13 ≤ (70368744177664 : Int)))
       ((true = true) ∧
        (true = true) ∧
        (true = true) ∧
        (k (AV.bool false) [] []))
       ((
         ((-9223372036854775808 : Int) ≤ q_1) ∧
         (q_1 ≤ (9223372036854775807 : Int))) ∧
        br (bif false then true else !decide ((-70368744177664 : Int) ≤ q_1 ∧ q_1 ≤ (70368744177664 : Int)))
         ((true = true) ∧
          (true = true) ∧
          (k (AV.bool false) [] []))
         ((
           ((-9223372036854775808 : Int) ≤ n) ∧
           (n ≤ (9223372036854775807 : Int))) ∧
          ∀ (r_16 : Int),
          (r_16 = ofI n) →
          ((-70368744177664 : Int) ≤ r_16 ∧ r_16 ≤ (70368744177664 : Int)) →
          (
           ((-9223372036854775808 : Int) ≤ r_16) ∧
           (r_16 ≤ (9223372036854775807 : Int))) ∧
          br (bif false then true else !decide ((-70368744177664 : Int) ≤ r_16 ∧ r_16 ≤ (70368744177664 : Int)))
           ((true = true) ∧
            (k (AV.bool false) [] []))
           ((
             ((-9223372036854775808 : Int) ≤ a) ∧
             (a ≤ (9223372036854775807 : Int))) ∧
            (
             ((-9223372036854775808 : Int) ≤ b) ∧
             (b ≤ (9223372036854775807 : Int))) ∧
            (
             ((-9223372036854775808 : Int) ≤ c) ∧
             (c ≤ (9223372036854775807 : Int))) ∧
            ∀ (r_19 : Int),
            (r_19 = mixI a b c) →
            ((-70368744177664 : Int) ≤ r_19 ∧ r_19 ≤ (70368744177664 : Int)) →
            (
             ((-9223372036854775808 : Int) ≤ r_19) ∧
             (r_19 ≤ (9223372036854775807 : Int))) ∧
            br (bif false then true else !decide ((-70368744177664 : Int) ≤ r_19 ∧ r_19 ≤ (70368744177664 : Int)))
             ((k (AV.bool false) [] []))
             ((
               ((-9223372036854775808 : Int) ≤ a) ∧
               (a ≤ (9223372036854775807 : Int))) ∧
              (
               ((-9223372036854775808 : Int) ≤ (0 : Int)) ∧
               ((0 : Int) ≤ (9223372036854775807 : Int))) ∧
              ∀ (r_22 : Int),
              (r_22 = addI a (0 : Int)) →
              ((-70368744177664 : Int) ≤ r_22 ∧ r_22 ≤ (70368744177664 : Int)) →
              br (bif bif decide (b ≥ (0 : Int)) then decide (r_7 < r_22) else false then true else bif decide (b ≤ (0 : Int)) then decide (r_7 > r_22) else false)
               ((k (AV.bool false) [] []))
               ((
                 ((-9223372036854775808 : Int) ≤ r_22) ∧
                 (r_22 ≤ (9223372036854775807 : Int))) ∧
                br (bif true then decide ((-70368744177664 : Int) ≤ r_22 ∧ r_22 ≤ (70368744177664 : Int)) else false)
                 ((
                   ((-9223372036854775808 : Int) ≤ a) ∧
                   (a ≤ (9223372036854775807 : Int))) ∧
                  (k (AV.bool (bif true then decide ((-70368744177664 : Int) ≤ a ∧ a ≤ (70368744177664 : Int)) == (r_22 == a) else false)) [] []))
                 ((false = false) ∧
                  (k (AV.bool false) [] []))))))))) := by
  refine ⟨by exact ⟨by assumption, by assumption⟩, ?_⟩ -- (-9223372036854775808 : Int) ≤ a ∧ a ≤ (9223372036854775807 : Int)
  refine ⟨by exact ⟨by assumption, by assumption⟩, ?_⟩ -- (-9223372036854775808 : Int) ≤ b ∧ b ≤ (9223372036854775807 : Int)
  intro q_1
  intro e_2
  intro h1 -- q_1 = divQ a b
  intro h2 -- e_2 = divE b
  intro ⟨a3, b3⟩ -- (-70368744177664 : Int) ≤ q_1 ∧ q_1 ≤ (70368744177664 : Int)
  intro h4 -- e_2 = (0 : Int) ∨ e_2 = (10 : Int)
  refine ⟨by exact ⟨by assumption, by assumption⟩, ?_⟩ -- (-9223372036854775808 : Int) ≤ a ∧ a ≤ (9223372036854775807 : Int)
  refine ⟨by exact ⟨by assumption, by assumption⟩, ?_⟩ -- (-9223372036854775808 : Int) ≤ b ∧ b ≤ (9223372036854775807 : Int)
  intro r_7
  intro h5 -- r_7 = addI a b
  intro ⟨a6, b6⟩ -- (-70368744177664 : Int) ≤ r_7 ∧ r_7 ≤ (70368744177664 : Int)
  refine ⟨by omega, ?_⟩ -- (-9223372036854775808 : Int) ≤ r_7 ∧ r_7 ≤ (9223372036854775807 : Int)
  refine br_intro (fun c7 => ?_) (fun c7 => ?_) -- !decide ((-70368744177664 : Int) ≤ r_7 ∧ r_7 ≤ (70368744177664 : Int))
  · -- yes
    simp at c7 -- r_7 < (-70368744177664 : Int) ∨ (70368744177664 : Int) < r_7
    refine ⟨by with_reducible rfl, ?_⟩ -- true = true
    refine ⟨by with_reducible rfl, ?_⟩ -- true = true
    refine ⟨by with_reducible rfl, ?_⟩ -- true = true
    refine ⟨by with_reducible rfl, ?_⟩ -- true = true
    refine ⟨by with_reducible rfl, ?_⟩ -- true = true
    exact by (exfalso; omega) -- k (AV.bool false) [] []
  · -- no
    simp at c7 -- (-70368744177664 : Int) ≤ r_7 ∧ r_7 ≤ (70368744177664 : Int)
    refine ⟨by exact ⟨by assumption, by assumption⟩, ?_⟩ -- (-9223372036854775808 : Int) ≤ a ∧ a ≤ (9223372036854775807 : Int)
    refine ⟨by exact ⟨by assumption, by assumption⟩, ?_⟩ -- (-9223372036854775808 : Int) ≤ b ∧ b ≤ (9223372036854775807 : Int)
    intro r_10
    intro h8 -- r_10 = subI a b
    intro ⟨a9, b9⟩ -- (-70368744177664 : Int) ≤ r_10 ∧ r_10 ≤ (70368744177664 : Int)
    refine ⟨by omega, ?_⟩ -- (-9223372036854775808 : Int) ≤ r_10 ∧ r_10 ≤ (9223372036854775807 : Int)
    refine br_intro (fun c10 => ?_) (fun c10 => ?_) -- bif false then true else !decide ((-70368744177664 : Int) ≤ r_10 ∧ r_10 ≤ (70368744177664 : Int))
    · -- yes
      simp at c10 -- r_10 < (-70368744177664 : Int) ∨ (70368744177664 : Int) < r_10
      refine ⟨by with_reducible rfl, ?_⟩ -- true = true
      refine ⟨by with_reducible rfl, ?_⟩ -- true = true
      refine ⟨by with_reducible rfl, ?_⟩ -- true = true
      refine ⟨by with_reducible rfl, ?_⟩ -- true = true
      exact by (exfalso; omega) -- k (AV.bool false) [] []
    · -- no
      simp at c10 -- (-70368744177664 : Int) ≤ r_10 ∧ r_10 ≤ (70368744177664 : Int)
      refine ⟨by exact ⟨by assumption, by assumption⟩, ?_⟩ -- (-9223372036854775808 : Int) ≤ a ∧ a ≤ (9223372036854775807 : Int)
      refine ⟨by exact ⟨by assumption, by assumption⟩, ?_⟩ -- (-9223372036854775808 : Int) ≤ b ∧ b ≤ (9223372036854775807 : Int)
      intro r_13
      intro h11 -- r_13 = mulI a b
      intro ⟨a12, b12⟩ -- (-70368744177664 : Int) ≤ r_13 ∧ r_13 ≤ (70368744177664 : Int)
      refine ⟨by omega, ?_⟩ -- (-9223372036854775808 : Int) ≤ r_13 ∧ r_13 ≤ (9223372036854775807 : Int)
      refine br_intro (fun c13 => ?_) (fun c13 => ?_) -- bif false then true else !decide ((-70368744177664 : Int) ≤ r_13 ∧ r_13 ≤ (70368744177664 : Int))
      · -- yes
        simp at c13 -- r_13 < (-70368744177664 : Int) ∨ (70368744177664 : Int) < r_13
        refine ⟨by with_reducible rfl, ?_⟩ -- true = true
        refine ⟨by with_reducible rfl, ?_⟩ -- true = true
        refine ⟨by with_reducible rfl, ?_⟩ -- true = true
        exact by (exfalso; omega) -- k (AV.bool false) [] []
      · -- no
        simp at c13 -- (-70368744177664 : Int) ≤ r_13 ∧ r_13 ≤ (70368744177664 : Int)
        refine ⟨by omega, ?_⟩ -- (-9223372036854775808 : Int) ≤ q_1 ∧ q_1 ≤ (9223372036854775807 : Int)
        refine br_intro (fun c14 => ?_) (fun c14 => ?_) -- bif false then true else !decide ((-70368744177664 : Int) ≤ q_1 ∧ q_1 ≤ (70368744177664 : Int))
        · -- yes
          simp at c14 -- q_1 < (-70368744177664 : Int) ∨ (70368744177664 : Int) < q_1
          refine ⟨by with_reducible rfl, ?_⟩ -- true = true
          refine ⟨by with_reducible rfl, ?_⟩ -- true = true
          exact by (exfalso; omega) -- k (AV.bool false) [] []
        · -- no
          simp at c14 -- (-70368744177664 : Int) ≤ q_1 ∧ q_1 ≤ (70368744177664 : Int)
          refine ⟨by exact ⟨by assumption, by assumption⟩, ?_⟩ -- (-9223372036854775808 : Int) ≤ n ∧ n ≤ (9223372036854775807 : Int)
          intro r_16
          intro h15 -- r_16 = ofI n
          intro ⟨a16, b16⟩ -- (-70368744177664 : Int) ≤ r_16 ∧ r_16 ≤ (70368744177664 : Int)
          refine ⟨by omega, ?_⟩ -- (-9223372036854775808 : Int) ≤ r_16 ∧ r_16 ≤ (9223372036854775807 : Int)
          refine br_intro (fun c17 => ?_) (fun c17 => ?_) -- bif false then true else !decide ((-70368744177664 : Int) ≤ r_16 ∧ r_16 ≤ (70368744177664 : Int))
          · -- yes
            simp at c17 -- r_16 < (-70368744177664 : Int) ∨ (70368744177664 : Int) < r_16
            refine ⟨by with_reducible rfl, ?_⟩ -- true = true
            exact by (exfalso; omega) -- k (AV.bool false) [] []
          · -- no
            simp at c17 -- (-70368744177664 : Int) ≤ r_16 ∧ r_16 ≤ (70368744177664 : Int)
            refine ⟨by exact ⟨by assumption, by assumption⟩, ?_⟩ -- (-9223372036854775808 : Int) ≤ a ∧ a ≤ (9223372036854775807 : Int)
            refine ⟨by exact ⟨by assumption, by assumption⟩, ?_⟩ -- (-9223372036854775808 : Int) ≤ b ∧ b ≤ (9223372036854775807 : Int)
            refine ⟨by exact ⟨by assumption, by assumption⟩, ?_⟩ -- (-9223372036854775808 : Int) ≤ c ∧ c ≤ (9223372036854775807 : Int)
            intro r_19
            intro h18 -- r_19 = mixI a b c
            intro ⟨a19, b19⟩ -- (-70368744177664 : Int) ≤ r_19 ∧ r_19 ≤ (70368744177664 : Int)
            refine ⟨by omega, ?_⟩ -- (-9223372036854775808 : Int) ≤ r_19 ∧ r_19 ≤ (9223372036854775807 : Int)
            refine br_intro (fun c20 => ?_) (fun c20 => ?_) -- bif false then true else !decide ((-70368744177664 : Int) ≤ r_19 ∧ r_19 ≤ (70368744177664 : Int))
            · -- yes
              simp at c20 -- r_19 < (-70368744177664 : Int) ∨ (70368744177664 : Int) < r_19
              exact by (exfalso; omega) -- k (AV.bool false) [] []
            · -- no
              simp at c20 -- (-70368744177664 : Int) ≤ r_19 ∧ r_19 ≤ (70368744177664 : Int)
              refine ⟨by exact ⟨by assumption, by assumption⟩, ?_⟩ -- (-9223372036854775808 : Int) ≤ a ∧ a ≤ (9223372036854775807 : Int)
              refine ⟨by omega, ?_⟩ -- (-9223372036854775808 : Int) ≤ (0 : Int) ∧ (0 : Int) ≤ (9223372036854775807 : Int)
              intro r_22
              intro h21 -- r_22 = addI a (0 : Int)
              intro ⟨a22, b22⟩ -- (-70368744177664 : Int) ≤ r_22 ∧ r_22 ≤ (70368744177664 : Int)
              refine br_intro (fun c23 => ?_) (fun c23 => ?_) -- bif bif decide (b ≥ (0 : Int)) then decide (r_7 < r_22) else false then true else bif decide (b ≤ (0 : Int)) then decide (r_7 > r_22) else false
              · -- yes
                simp at c23 -- (0 : Int) ≤ b ∧ r_7 < r_22 ∨ b ≤ (0 : Int) ∧ r_22 < r_7
                -- k (AV.bool false) [] []
                exfalso; unfold addI stopI at *; omega
              · -- no
                simp at c23 -- ((0 : Int) ≤ b → r_22 ≤ r_7) ∧ (b ≤ (0 : Int) → r_7 ≤ r_22)
                refine ⟨by omega, ?_⟩ -- (-9223372036854775808 : Int) ≤ r_22 ∧ r_22 ≤ (9223372036854775807 : Int)
                refine br_intro (fun c24 => ?_) (fun c24 => ?_) -- bif true then decide ((-70368744177664 : Int) ≤ r_22 ∧ r_22 ≤ (70368744177664 : Int)) else false
                · -- yes
                  simp at c24 -- (-70368744177664 : Int) ≤ r_22 ∧ r_22 ≤ (70368744177664 : Int)
                  refine ⟨by exact ⟨by assumption, by assumption⟩, ?_⟩ -- (-9223372036854775808 : Int) ≤ a ∧ a ≤ (9223372036854775807 : Int)
                  -- k (AV.bool (bif true then decide ((-70368744177664 : Int) ≤ a ∧ a ≤ (70368744177664 : Int)) == (r_22 == a) else false)) [] []
                  have e0 := stop_iff a
                  have e1 := add_zero' a
                  rw [← h21] at e1
                  rw [← e1] at e0
                  refine k_true hk ?_
                  simp only [cond_true, beq_iff_eq]
                  rw [Bool.eq_iff_iff]
                  simp only [decide_eq_true_eq, beq_iff_eq]
                  exact e0
                · -- no
                  simp at c24 -- (-70368744177664 : Int) ≤ r_22 → (70368744177664 : Int) < r_22
                  refine ⟨by with_reducible rfl, ?_⟩ -- false = false
                  exact by (exfalso; omega) -- k (AV.bool false) [] []

theorem fixBounds_ok : Holds Try.prog 10 lawI4 := by
  refine fn_sound (env := mkEnv T2) (tab_ok T2_ok) Try.func10 Try.call10 fun args k h => ?_
  match args, h with
  | [.int .i64 a, .int .i64 b, .int .i64 c, .int .i64 n], h => exact ⟨by kernel_rfl, fun _ _ => none, fun _ _ => none, .cast (by kernel_rfl) (fixBounds_vc a h.1.1 h.1.2 b h.2.1.1 h.2.1.2 c h.2.2.1.1 h.2.2.1.2 n h.2.2.2.1.1 h.2.2.2.1.2 k h.2.2.2.2)⟩
end Go.Proofs.Ytlbnmnaamphclaa
namespace Go.Proofs.Ytlbnmnaamphclaa
open Go.ChangeShapes Go.WideShapes Go.ChangeAt Go.RowKit Go.Eng
set_option linter.unusedVariables false

theorem ownA : ownKnob Try.prog.godebug = none := by kernel_rfl
theorem laidA : laidOutB Try.prog = true := by kernel_rfl

set_option maxRecDepth 100000 in
theorem fixTurnsLifted (os : Os) (started : os.Started) (H : Type) (enc : TypeId × Value → H) :
    ReturnsInHanded {} Try.checked os 3 .any (Rows.fixTurnsSpec.pre6 enc Try.prog Try.f3 Rows.fixTurnsRow.domain false) (Rows.fixTurnsSpec.post enc Try.prog Try.f3 false true false false) := by
  refine returnsInHanded_of_change (C := Try.checked) ownA started (by kernel_rfl) Try.func3
    (ChangeSpec.witness6 (enc := enc) (C := Try.checked) false ⟨#[], #[.int .i64 0, .int .i64 0, .int .i64 0, .int .i64 0], []⟩ 8 (by kernel_rfl) (by kernel_rfl) (by kernel_rfl) (by kernel_rfl)) ?_
  intro W base args ds gs before hval0 hW hcnd _
  have hval : ∀ (j : Nat) t v, Try.f3.params[j]? = some t → args[j]? = some v → Value.okWide Try.prog W .any base t v := hval0
  have hW' := hW
  obtain ⟨p, q, hA0, hV, rfl, hfz, hnd⟩ := hW
  have hA : DataW.TrodAll enc Try.prog W 0 (fun _ => true) true Try.f3.params.toList args.toList ds p := hA0
  rw [Try.params3] at hA hval
  obtain ⟨v0, vs0, d0, ds0, p0, q0, hargs, rfl, rfl, h0, r0⟩ := trodAll_cons hA
  obtain ⟨v1, vs1, d1, ds1, p1, q1, rfl, rfl, rfl, h1, r1⟩ := trodAll_cons r0
  obtain ⟨v2, vs2, d2, ds2, p2, q2, rfl, rfl, rfl, h2, r2⟩ := trodAll_cons r1
  obtain ⟨v3, vs3, d3, ds3, p3, q3, rfl, rfl, rfl, h3, r3⟩ := trodAll_cons r2
  obtain ⟨rfl, rfl, rfl⟩ := trodAll_nil r3
  obtain rfl : args = #[v0, v1, v2, v3] := by cases args; simp_all
  obtain ⟨rfl, rfl⟩ := trodVars_none hV
  obtain ⟨a0, rfl, rfl, rfl, w0⟩ := open_int Try.underlying3 (hval 0 3 v0 rfl rfl) h0
  obtain ⟨a1, rfl, rfl, rfl, w1⟩ := open_int Try.underlying2 (hval 1 2 v1 rfl rfl) h1
  obtain ⟨a2, rfl, rfl, rfl, w2⟩ := open_int Try.underlying2 (hval 2 2 v2 rfl rfl) h2
  obtain ⟨a3, rfl, rfl, rfl, w3⟩ := open_int Try.underlying2 (hval 3 2 v3 rfl rfl) h3
  clear hA0 hval0
  have hk0 : kwf .i64 a0 := by simpa [Lit.wf, kwf] using w0
  have hk1 : kwf .i64 a1 := by simpa [Lit.wf, kwf] using w1
  have hk2 : kwf .i64 a2 := by simpa [Lit.wf, kwf] using w2
  have hk3 : kwf .i64 a3 := by simpa [Lit.wf, kwf] using w3
  -- PRE: what the spec asks (['hk0', 'hk1', 'hk2', 'hk3']), then rfl
  refine (calls_of_holds fixTurns_ok Try.call3 (w := W) (vals := #[.int .i64 a0, .int .i64 a1, .int .i64 a2, .int .i64 a3]) (args := [.int .i64 a0, .int .i64 a1, .int .i64 a2, .int .i64 a3]) rfl (fun j v hj => ?_) ⟨hk0, hk1, hk2, hk3, rfl⟩).mono fun e W' ⟨he, bel⟩ => ?_
  · rcases j with _ | _ | _ | _ | j
    · simp at hj; subst hj; exact .int hk0
    · simp at hj; subst hj; exact .int hk1
    · simp at hj; subst hj; exact .int hk2
    · simp at hj; subst hj; exact .int hk3
    · simp at hj
  subst he
  exact ⟨_, rfl, _, _, _, [], _, [], hW', trodAll_mk1 (shut_bool Try.underlying4 _), (trodAll_cons_mk (shut_int Try.underlying3 w0) (trodAll_cons_mk (shut_int Try.underlying2 w1) (trodAll_cons_mk (shut_int Try.underlying2 w2) (trodAll_cons_mk (shut_int Try.underlying2 w3) trodAll_mk0)))), rfl, bel.frame _, fun h => by cases h⟩

theorem fixTurns_said : Rows.FixTurnsSaid :=
  OpenClaim.holds_of_wide 3 Try.f3 rfl rfl rfl rfl rfl rfl rfl ⟨rfl, rfl, rfl, rfl, rfl⟩ rfl rfl rfl rfl rfl (by kernel_rfl) Try.func3 (by kernel_rfl)
    (of_decide_eq_true (by kernel_rfl)) (by unfold Func.isWrapper; first | (rw [if_pos (by decide +kernel)]; kernel_rfl) | (rw [if_neg (by decide +kernel)]; exact ⟨rfl, rfl⟩))
    (fun os started H enc _ => fixTurnsLifted os started H enc)
#print axioms fixTurns_said
end Go.Proofs.Ytlbnmnaamphclaa

namespace Go.Proofs.Ytlbnmnaamphclaa
open Go.ChangeShapes Go.WideShapes Go.ChangeAt Go.RowKit Go.Eng
set_option linter.unusedVariables false

theorem ownB : ownKnob Try.prog.godebug = none := by kernel_rfl
theorem laidB : laidOutB Try.prog = true := by kernel_rfl

set_option maxRecDepth 100000 in
theorem fixReckonsLifted (os : Os) (started : os.Started) (H : Type) (enc : TypeId × Value → H) :
    ReturnsInHanded {} Try.checked os 4 .any (Rows.fixReckonsSpec.pre6 enc Try.prog Try.f4 Rows.fixReckonsRow.domain false) (Rows.fixReckonsSpec.post enc Try.prog Try.f4 false true false false) := by
  refine returnsInHanded_of_change (C := Try.checked) ownB started (by kernel_rfl) Try.func4
    (ChangeSpec.witness6 (enc := enc) (C := Try.checked) false ⟨#[], #[.int .i64 0, .int .i64 0], []⟩ 8 (by kernel_rfl) (by kernel_rfl) (by kernel_rfl) (by kernel_rfl)) ?_
  intro W base args ds gs before hval0 hW hcnd _
  have hval : ∀ (j : Nat) t v, Try.f4.params[j]? = some t → args[j]? = some v → Value.okWide Try.prog W .any base t v := hval0
  have hW' := hW
  obtain ⟨p, q, hA0, hV, rfl, hfz, hnd⟩ := hW
  have hA : DataW.TrodAll enc Try.prog W 0 (fun _ => true) true Try.f4.params.toList args.toList ds p := hA0
  rw [Try.params4] at hA hval
  obtain ⟨v0, vs0, d0, ds0, p0, q0, hargs, rfl, rfl, h0, r0⟩ := trodAll_cons hA
  obtain ⟨v1, vs1, d1, ds1, p1, q1, rfl, rfl, rfl, h1, r1⟩ := trodAll_cons r0
  obtain ⟨rfl, rfl, rfl⟩ := trodAll_nil r1
  obtain rfl : args = #[v0, v1] := by cases args; simp_all
  obtain ⟨rfl, rfl⟩ := trodVars_none hV
  obtain ⟨a0, rfl, rfl, rfl, w0⟩ := open_int Try.underlying2 (hval 0 2 v0 rfl rfl) h0
  obtain ⟨a1, rfl, rfl, rfl, w1⟩ := open_int Try.underlying2 (hval 1 2 v1 rfl rfl) h1
  clear hA0 hval0
  have hk0 : kwf .i64 a0 := by simpa [Lit.wf, kwf] using w0
  have hk1 : kwf .i64 a1 := by simpa [Lit.wf, kwf] using w1
  -- PRE: what the spec asks (['hk0', 'hk1']), then rfl
  refine (calls_of_holds fixReckons_ok Try.call4 (w := W) (vals := #[.int .i64 a0, .int .i64 a1]) (args := [.int .i64 a0, .int .i64 a1]) rfl (fun j v hj => ?_) ⟨hk0, hk1, rfl⟩).mono fun e W' ⟨he, bel⟩ => ?_
  · rcases j with _ | _ | j
    · simp at hj; subst hj; exact .int hk0
    · simp at hj; subst hj; exact .int hk1
    · simp at hj
  subst he
  exact ⟨_, rfl, _, _, _, [], _, [], hW', trodAll_mk1 (shut_bool Try.underlying4 _), (trodAll_cons_mk (shut_int Try.underlying2 w0) (trodAll_cons_mk (shut_int Try.underlying2 w1) trodAll_mk0)), rfl, bel.frame _, fun h => by cases h⟩

theorem fixReckons_said : Rows.FixReckonsSaid :=
  OpenClaim.holds_of_wide 4 Try.f4 rfl rfl rfl rfl rfl rfl rfl ⟨rfl, rfl, rfl, rfl, rfl⟩ rfl rfl rfl rfl rfl (by kernel_rfl) Try.func4 (by kernel_rfl)
    (of_decide_eq_true (by kernel_rfl)) (by unfold Func.isWrapper; first | (rw [if_pos (by decide +kernel)]; kernel_rfl) | (rw [if_neg (by decide +kernel)]; exact ⟨rfl, rfl⟩))
    (fun os started H enc _ => fixReckonsLifted os started H enc)
#print axioms fixReckons_said
end Go.Proofs.Ytlbnmnaamphclaa

namespace Go.Proofs.Ytlbnmnaamphclaa
open Go.ChangeShapes Go.WideShapes Go.ChangeAt Go.RowKit Go.Eng
set_option linter.unusedVariables false

theorem ownC : ownKnob Try.prog.godebug = none := by kernel_rfl
theorem laidC : laidOutB Try.prog = true := by kernel_rfl

set_option maxRecDepth 100000 in
theorem fixTwoLifted (os : Os) (started : os.Started) (H : Type) (enc : TypeId × Value → H) :
    ReturnsInHanded {} Try.checked os 5 .any (Rows.fixTwoSpec.pre6 enc Try.prog Try.f5 Rows.fixTwoRow.domain false) (Rows.fixTwoSpec.post enc Try.prog Try.f5 false true false false) := by
  refine returnsInHanded_of_change (C := Try.checked) ownC started (by kernel_rfl) Try.func5
    (ChangeSpec.witness6 (enc := enc) (C := Try.checked) false ⟨#[], #[.int .i64 0, .int .i64 0], []⟩ 8 (by kernel_rfl) (by kernel_rfl) (by kernel_rfl) (by kernel_rfl)) ?_
  intro W base args ds gs before hval0 hW hcnd _
  have hval : ∀ (j : Nat) t v, Try.f5.params[j]? = some t → args[j]? = some v → Value.okWide Try.prog W .any base t v := hval0
  have hW' := hW
  obtain ⟨p, q, hA0, hV, rfl, hfz, hnd⟩ := hW
  have hA : DataW.TrodAll enc Try.prog W 0 (fun _ => true) true Try.f5.params.toList args.toList ds p := hA0
  rw [Try.params5] at hA hval
  obtain ⟨v0, vs0, d0, ds0, p0, q0, hargs, rfl, rfl, h0, r0⟩ := trodAll_cons hA
  obtain ⟨v1, vs1, d1, ds1, p1, q1, rfl, rfl, rfl, h1, r1⟩ := trodAll_cons r0
  obtain ⟨rfl, rfl, rfl⟩ := trodAll_nil r1
  obtain rfl : args = #[v0, v1] := by cases args; simp_all
  obtain ⟨rfl, rfl⟩ := trodVars_none hV
  obtain ⟨a0, rfl, rfl, rfl, w0⟩ := open_int Try.underlying2 (hval 0 2 v0 rfl rfl) h0
  obtain ⟨a1, rfl, rfl, rfl, w1⟩ := open_int Try.underlying2 (hval 1 2 v1 rfl rfl) h1
  clear hA0 hval0
  have hk0 : kwf .i64 a0 := by simpa [Lit.wf, kwf] using w0
  have hk1 : kwf .i64 a1 := by simpa [Lit.wf, kwf] using w1
  -- PRE: what the spec asks (['hk0', 'hk1']), then rfl
  refine (calls_of_holds fixTwo_ok Try.call5 (w := W) (vals := #[.int .i64 a0, .int .i64 a1]) (args := [.int .i64 a0, .int .i64 a1]) rfl (fun j v hj => ?_) ⟨hk0, hk1, rfl⟩).mono fun e W' ⟨he, bel⟩ => ?_
  · rcases j with _ | _ | j
    · simp at hj; subst hj; exact .int hk0
    · simp at hj; subst hj; exact .int hk1
    · simp at hj
  subst he
  exact ⟨_, rfl, _, _, _, [], _, [], hW', trodAll_mk1 (shut_bool Try.underlying4 _), (trodAll_cons_mk (shut_int Try.underlying2 w0) (trodAll_cons_mk (shut_int Try.underlying2 w1) trodAll_mk0)), rfl, bel.frame _, fun h => by cases h⟩

theorem fixTwo_said : Rows.FixTwoSaid :=
  OpenClaim.holds_of_wide 5 Try.f5 rfl rfl rfl rfl rfl rfl rfl ⟨rfl, rfl, rfl, rfl, rfl⟩ rfl rfl rfl rfl rfl (by kernel_rfl) Try.func5 (by kernel_rfl)
    (of_decide_eq_true (by kernel_rfl)) (by unfold Func.isWrapper; first | (rw [if_pos (by decide +kernel)]; kernel_rfl) | (rw [if_neg (by decide +kernel)]; exact ⟨rfl, rfl⟩))
    (fun os started H enc _ => fixTwoLifted os started H enc)
#print axioms fixTwo_said
end Go.Proofs.Ytlbnmnaamphclaa

namespace Go.Proofs.Ytlbnmnaamphclaa
open Go.ChangeShapes Go.WideShapes Go.ChangeAt Go.RowKit Go.Eng
set_option linter.unusedVariables false

theorem ownD : ownKnob Try.prog.godebug = none := by kernel_rfl
theorem laidD : laidOutB Try.prog = true := by kernel_rfl

set_option maxRecDepth 100000 in
theorem fixNearLifted (os : Os) (started : os.Started) (H : Type) (enc : TypeId × Value → H) :
    ReturnsInHanded {} Try.checked os 6 .any (Rows.fixNearSpec.pre6 enc Try.prog Try.f6 Rows.fixNearRow.domain false) (Rows.fixNearSpec.post enc Try.prog Try.f6 false true false false) := by
  refine returnsInHanded_of_change (C := Try.checked) ownD started (by kernel_rfl) Try.func6
    (ChangeSpec.witness6 (enc := enc) (C := Try.checked) false ⟨#[], #[.int .i64 0, .int .i64 0], []⟩ 8 (by kernel_rfl) (by kernel_rfl) (by kernel_rfl) (by kernel_rfl)) ?_
  intro W base args ds gs before hval0 hW hcnd _
  have hval : ∀ (j : Nat) t v, Try.f6.params[j]? = some t → args[j]? = some v → Value.okWide Try.prog W .any base t v := hval0
  have hW' := hW
  obtain ⟨p, q, hA0, hV, rfl, hfz, hnd⟩ := hW
  have hA : DataW.TrodAll enc Try.prog W 0 (fun _ => true) true Try.f6.params.toList args.toList ds p := hA0
  rw [Try.params6] at hA hval
  obtain ⟨v0, vs0, d0, ds0, p0, q0, hargs, rfl, rfl, h0, r0⟩ := trodAll_cons hA
  obtain ⟨v1, vs1, d1, ds1, p1, q1, rfl, rfl, rfl, h1, r1⟩ := trodAll_cons r0
  obtain ⟨rfl, rfl, rfl⟩ := trodAll_nil r1
  obtain rfl : args = #[v0, v1] := by cases args; simp_all
  obtain ⟨rfl, rfl⟩ := trodVars_none hV
  obtain ⟨a0, rfl, rfl, rfl, w0⟩ := open_int Try.underlying2 (hval 0 2 v0 rfl rfl) h0
  obtain ⟨a1, rfl, rfl, rfl, w1⟩ := open_int Try.underlying2 (hval 1 2 v1 rfl rfl) h1
  clear hA0 hval0
  have hk0 : kwf .i64 a0 := by simpa [Lit.wf, kwf] using w0
  have hk1 : kwf .i64 a1 := by simpa [Lit.wf, kwf] using w1
  -- PRE: what the spec asks (['hk0', 'hk1']), then rfl
  refine (calls_of_holds fixNear_ok Try.call6 (w := W) (vals := #[.int .i64 a0, .int .i64 a1]) (args := [.int .i64 a0, .int .i64 a1]) rfl (fun j v hj => ?_) ⟨hk0, hk1, rfl⟩).mono fun e W' ⟨he, bel⟩ => ?_
  · rcases j with _ | _ | j
    · simp at hj; subst hj; exact .int hk0
    · simp at hj; subst hj; exact .int hk1
    · simp at hj
  subst he
  exact ⟨_, rfl, _, _, _, [], _, [], hW', trodAll_mk1 (shut_bool Try.underlying4 _), (trodAll_cons_mk (shut_int Try.underlying2 w0) (trodAll_cons_mk (shut_int Try.underlying2 w1) trodAll_mk0)), rfl, bel.frame _, fun h => by cases h⟩

theorem fixNear_said : Rows.FixNearSaid :=
  OpenClaim.holds_of_wide 6 Try.f6 rfl rfl rfl rfl rfl rfl rfl ⟨rfl, rfl, rfl, rfl, rfl⟩ rfl rfl rfl rfl rfl (by kernel_rfl) Try.func6 (by kernel_rfl)
    (of_decide_eq_true (by kernel_rfl)) (by unfold Func.isWrapper; first | (rw [if_pos (by decide +kernel)]; kernel_rfl) | (rw [if_neg (by decide +kernel)]; exact ⟨rfl, rfl⟩))
    (fun os started H enc _ => fixNearLifted os started H enc)
#print axioms fixNear_said
end Go.Proofs.Ytlbnmnaamphclaa

namespace Go.Proofs.Ytlbnmnaamphclaa
open Go.ChangeShapes Go.WideShapes Go.ChangeAt Go.RowKit Go.Eng
set_option linter.unusedVariables false

theorem ownE : ownKnob Try.prog.godebug = none := by kernel_rfl
theorem laidE : laidOutB Try.prog = true := by kernel_rfl

set_option maxRecDepth 100000 in
theorem fixOrderLifted (os : Os) (started : os.Started) (H : Type) (enc : TypeId × Value → H) :
    ReturnsInHanded {} Try.checked os 7 .any (Rows.fixOrderSpec.pre6 enc Try.prog Try.f7 Rows.fixOrderRow.domain false) (Rows.fixOrderSpec.post enc Try.prog Try.f7 false true false false) := by
  refine returnsInHanded_of_change (C := Try.checked) ownE started (by kernel_rfl) Try.func7
    (ChangeSpec.witness6 (enc := enc) (C := Try.checked) false ⟨#[], #[.int .i64 0, .int .i64 0, .int .i64 0], []⟩ 8 (by kernel_rfl) (by kernel_rfl) (by kernel_rfl) (by kernel_rfl)) ?_
  intro W base args ds gs before hval0 hW hcnd _
  have hval : ∀ (j : Nat) t v, Try.f7.params[j]? = some t → args[j]? = some v → Value.okWide Try.prog W .any base t v := hval0
  have hW' := hW
  obtain ⟨p, q, hA0, hV, rfl, hfz, hnd⟩ := hW
  have hA : DataW.TrodAll enc Try.prog W 0 (fun _ => true) true Try.f7.params.toList args.toList ds p := hA0
  rw [Try.params7] at hA hval
  obtain ⟨v0, vs0, d0, ds0, p0, q0, hargs, rfl, rfl, h0, r0⟩ := trodAll_cons hA
  obtain ⟨v1, vs1, d1, ds1, p1, q1, rfl, rfl, rfl, h1, r1⟩ := trodAll_cons r0
  obtain ⟨v2, vs2, d2, ds2, p2, q2, rfl, rfl, rfl, h2, r2⟩ := trodAll_cons r1
  obtain ⟨rfl, rfl, rfl⟩ := trodAll_nil r2
  obtain rfl : args = #[v0, v1, v2] := by cases args; simp_all
  obtain ⟨rfl, rfl⟩ := trodVars_none hV
  obtain ⟨a0, rfl, rfl, rfl, w0⟩ := open_int Try.underlying2 (hval 0 2 v0 rfl rfl) h0
  obtain ⟨a1, rfl, rfl, rfl, w1⟩ := open_int Try.underlying2 (hval 1 2 v1 rfl rfl) h1
  obtain ⟨a2, rfl, rfl, rfl, w2⟩ := open_int Try.underlying2 (hval 2 2 v2 rfl rfl) h2
  clear hA0 hval0
  have hk0 : kwf .i64 a0 := by simpa [Lit.wf, kwf] using w0
  have hk1 : kwf .i64 a1 := by simpa [Lit.wf, kwf] using w1
  have hk2 : kwf .i64 a2 := by simpa [Lit.wf, kwf] using w2
  -- PRE: what the spec asks (['hk0', 'hk1', 'hk2']), then rfl
  refine (calls_of_holds fixOrder_ok Try.call7 (w := W) (vals := #[.int .i64 a0, .int .i64 a1, .int .i64 a2]) (args := [.int .i64 a0, .int .i64 a1, .int .i64 a2]) rfl (fun j v hj => ?_) ⟨hk0, hk1, hk2, rfl⟩).mono fun e W' ⟨he, bel⟩ => ?_
  · rcases j with _ | _ | _ | j
    · simp at hj; subst hj; exact .int hk0
    · simp at hj; subst hj; exact .int hk1
    · simp at hj; subst hj; exact .int hk2
    · simp at hj
  subst he
  exact ⟨_, rfl, _, _, _, [], _, [], hW', trodAll_mk1 (shut_bool Try.underlying4 _), (trodAll_cons_mk (shut_int Try.underlying2 w0) (trodAll_cons_mk (shut_int Try.underlying2 w1) (trodAll_cons_mk (shut_int Try.underlying2 w2) trodAll_mk0))), rfl, bel.frame _, fun h => by cases h⟩

theorem fixOrder_said : Rows.FixOrderSaid :=
  OpenClaim.holds_of_wide 7 Try.f7 rfl rfl rfl rfl rfl rfl rfl ⟨rfl, rfl, rfl, rfl, rfl⟩ rfl rfl rfl rfl rfl (by kernel_rfl) Try.func7 (by kernel_rfl)
    (of_decide_eq_true (by kernel_rfl)) (by unfold Func.isWrapper; first | (rw [if_pos (by decide +kernel)]; kernel_rfl) | (rw [if_neg (by decide +kernel)]; exact ⟨rfl, rfl⟩))
    (fun os started H enc _ => fixOrderLifted os started H enc)
#print axioms fixOrder_said
end Go.Proofs.Ytlbnmnaamphclaa

namespace Go.Proofs.Ytlbnmnaamphclaa
open Go.ChangeShapes Go.WideShapes Go.ChangeAt Go.RowKit Go.Eng
set_option linter.unusedVariables false

theorem ownF : ownKnob Try.prog.godebug = none := by kernel_rfl
theorem laidF : laidOutB Try.prog = true := by kernel_rfl

set_option maxRecDepth 100000 in
theorem fixBetweenLifted (os : Os) (started : os.Started) (H : Type) (enc : TypeId × Value → H) :
    ReturnsInHanded {} Try.checked os 8 .any (Rows.fixBetweenSpec.pre6 enc Try.prog Try.f8 Rows.fixBetweenRow.domain false) (Rows.fixBetweenSpec.post enc Try.prog Try.f8 false true false false) := by
  refine returnsInHanded_of_change (C := Try.checked) ownF started (by kernel_rfl) Try.func8
    (ChangeSpec.witness6 (enc := enc) (C := Try.checked) false ⟨#[], #[.int .i64 0, .int .i64 0, .int .i64 0, .int .i64 0], []⟩ 8 (by kernel_rfl) (by kernel_rfl) (by kernel_rfl) (by kernel_rfl)) ?_
  intro W base args ds gs before hval0 hW hcnd _
  have hval : ∀ (j : Nat) t v, Try.f8.params[j]? = some t → args[j]? = some v → Value.okWide Try.prog W .any base t v := hval0
  have hW' := hW
  obtain ⟨p, q, hA0, hV, rfl, hfz, hnd⟩ := hW
  have hA : DataW.TrodAll enc Try.prog W 0 (fun _ => true) true Try.f8.params.toList args.toList ds p := hA0
  rw [Try.params8] at hA hval
  obtain ⟨v0, vs0, d0, ds0, p0, q0, hargs, rfl, rfl, h0, r0⟩ := trodAll_cons hA
  obtain ⟨v1, vs1, d1, ds1, p1, q1, rfl, rfl, rfl, h1, r1⟩ := trodAll_cons r0
  obtain ⟨v2, vs2, d2, ds2, p2, q2, rfl, rfl, rfl, h2, r2⟩ := trodAll_cons r1
  obtain ⟨v3, vs3, d3, ds3, p3, q3, rfl, rfl, rfl, h3, r3⟩ := trodAll_cons r2
  obtain ⟨rfl, rfl, rfl⟩ := trodAll_nil r3
  obtain rfl : args = #[v0, v1, v2, v3] := by cases args; simp_all
  obtain ⟨rfl, rfl⟩ := trodVars_none hV
  obtain ⟨a0, rfl, rfl, rfl, w0⟩ := open_int Try.underlying2 (hval 0 2 v0 rfl rfl) h0
  obtain ⟨a1, rfl, rfl, rfl, w1⟩ := open_int Try.underlying2 (hval 1 2 v1 rfl rfl) h1
  obtain ⟨a2, rfl, rfl, rfl, w2⟩ := open_int Try.underlying2 (hval 2 2 v2 rfl rfl) h2
  obtain ⟨a3, rfl, rfl, rfl, w3⟩ := open_int Try.underlying2 (hval 3 2 v3 rfl rfl) h3
  clear hA0 hval0
  have hk0 : kwf .i64 a0 := by simpa [Lit.wf, kwf] using w0
  have hk1 : kwf .i64 a1 := by simpa [Lit.wf, kwf] using w1
  have hk2 : kwf .i64 a2 := by simpa [Lit.wf, kwf] using w2
  have hk3 : kwf .i64 a3 := by simpa [Lit.wf, kwf] using w3
  -- PRE: what the spec asks (['hk0', 'hk1', 'hk2', 'hk3']), then rfl
  refine (calls_of_holds fixBetween_ok Try.call8 (w := W) (vals := #[.int .i64 a0, .int .i64 a1, .int .i64 a2, .int .i64 a3]) (args := [.int .i64 a0, .int .i64 a1, .int .i64 a2, .int .i64 a3]) rfl (fun j v hj => ?_) ⟨hk0, hk1, hk2, hk3, rfl⟩).mono fun e W' ⟨he, bel⟩ => ?_
  · rcases j with _ | _ | _ | _ | j
    · simp at hj; subst hj; exact .int hk0
    · simp at hj; subst hj; exact .int hk1
    · simp at hj; subst hj; exact .int hk2
    · simp at hj; subst hj; exact .int hk3
    · simp at hj
  subst he
  exact ⟨_, rfl, _, _, _, [], _, [], hW', trodAll_mk1 (shut_bool Try.underlying4 _), (trodAll_cons_mk (shut_int Try.underlying2 w0) (trodAll_cons_mk (shut_int Try.underlying2 w1) (trodAll_cons_mk (shut_int Try.underlying2 w2) (trodAll_cons_mk (shut_int Try.underlying2 w3) trodAll_mk0)))), rfl, bel.frame _, fun h => by cases h⟩

theorem fixBetween_said : Rows.FixBetweenSaid :=
  OpenClaim.holds_of_wide 8 Try.f8 rfl rfl rfl rfl rfl rfl rfl ⟨rfl, rfl, rfl, rfl, rfl⟩ rfl rfl rfl rfl rfl (by kernel_rfl) Try.func8 (by kernel_rfl)
    (of_decide_eq_true (by kernel_rfl)) (by unfold Func.isWrapper; first | (rw [if_pos (by decide +kernel)]; kernel_rfl) | (rw [if_neg (by decide +kernel)]; exact ⟨rfl, rfl⟩))
    (fun os started H enc _ => fixBetweenLifted os started H enc)
#print axioms fixBetween_said
end Go.Proofs.Ytlbnmnaamphclaa

namespace Go.Proofs.Ytlbnmnaamphclaa
open Go.ChangeShapes Go.WideShapes Go.ChangeAt Go.RowKit Go.Eng
set_option linter.unusedVariables false

theorem ownG : ownKnob Try.prog.godebug = none := by kernel_rfl
theorem laidG : laidOutB Try.prog = true := by kernel_rfl

set_option maxRecDepth 100000 in
theorem fixBoundsLifted (os : Os) (started : os.Started) (H : Type) (enc : TypeId × Value → H) :
    ReturnsInHanded {} Try.checked os 10 .any (Rows.fixBoundsSpec.pre6 enc Try.prog Try.f10 Rows.fixBoundsRow.domain false) (Rows.fixBoundsSpec.post enc Try.prog Try.f10 false true false false) := by
  refine returnsInHanded_of_change (C := Try.checked) ownG started (by kernel_rfl) Try.func10
    (ChangeSpec.witness6 (enc := enc) (C := Try.checked) false ⟨#[], #[.int .i64 0, .int .i64 0, .int .i64 0, .int .i64 0], []⟩ 8 (by kernel_rfl) (by kernel_rfl) (by kernel_rfl) (by kernel_rfl)) ?_
  intro W base args ds gs before hval0 hW hcnd _
  have hval : ∀ (j : Nat) t v, Try.f10.params[j]? = some t → args[j]? = some v → Value.okWide Try.prog W .any base t v := hval0
  have hW' := hW
  obtain ⟨p, q, hA0, hV, rfl, hfz, hnd⟩ := hW
  have hA : DataW.TrodAll enc Try.prog W 0 (fun _ => true) true Try.f10.params.toList args.toList ds p := hA0
  rw [Try.params10] at hA hval
  obtain ⟨v0, vs0, d0, ds0, p0, q0, hargs, rfl, rfl, h0, r0⟩ := trodAll_cons hA
  obtain ⟨v1, vs1, d1, ds1, p1, q1, rfl, rfl, rfl, h1, r1⟩ := trodAll_cons r0
  obtain ⟨v2, vs2, d2, ds2, p2, q2, rfl, rfl, rfl, h2, r2⟩ := trodAll_cons r1
  obtain ⟨v3, vs3, d3, ds3, p3, q3, rfl, rfl, rfl, h3, r3⟩ := trodAll_cons r2
  obtain ⟨rfl, rfl, rfl⟩ := trodAll_nil r3
  obtain rfl : args = #[v0, v1, v2, v3] := by cases args; simp_all
  obtain ⟨rfl, rfl⟩ := trodVars_none hV
  obtain ⟨a0, rfl, rfl, rfl, w0⟩ := open_int Try.underlying2 (hval 0 2 v0 rfl rfl) h0
  obtain ⟨a1, rfl, rfl, rfl, w1⟩ := open_int Try.underlying2 (hval 1 2 v1 rfl rfl) h1
  obtain ⟨a2, rfl, rfl, rfl, w2⟩ := open_int Try.underlying2 (hval 2 2 v2 rfl rfl) h2
  obtain ⟨a3, rfl, rfl, rfl, w3⟩ := open_int Try.underlying3 (hval 3 3 v3 rfl rfl) h3
  clear hA0 hval0
  have hk0 : kwf .i64 a0 := by simpa [Lit.wf, kwf] using w0
  have hk1 : kwf .i64 a1 := by simpa [Lit.wf, kwf] using w1
  have hk2 : kwf .i64 a2 := by simpa [Lit.wf, kwf] using w2
  have hk3 : kwf .i64 a3 := by simpa [Lit.wf, kwf] using w3
  -- PRE: what the spec asks (['hk0', 'hk1', 'hk2', 'hk3']), then rfl
  refine (calls_of_holds fixBounds_ok Try.call10 (w := W) (vals := #[.int .i64 a0, .int .i64 a1, .int .i64 a2, .int .i64 a3]) (args := [.int .i64 a0, .int .i64 a1, .int .i64 a2, .int .i64 a3]) rfl (fun j v hj => ?_) ⟨hk0, hk1, hk2, hk3, rfl⟩).mono fun e W' ⟨he, bel⟩ => ?_
  · rcases j with _ | _ | _ | _ | j
    · simp at hj; subst hj; exact .int hk0
    · simp at hj; subst hj; exact .int hk1
    · simp at hj; subst hj; exact .int hk2
    · simp at hj; subst hj; exact .int hk3
    · simp at hj
  subst he
  exact ⟨_, rfl, _, _, _, [], _, [], hW', trodAll_mk1 (shut_bool Try.underlying4 _), (trodAll_cons_mk (shut_int Try.underlying2 w0) (trodAll_cons_mk (shut_int Try.underlying2 w1) (trodAll_cons_mk (shut_int Try.underlying2 w2) (trodAll_cons_mk (shut_int Try.underlying3 w3) trodAll_mk0)))), rfl, bel.frame _, fun h => by cases h⟩

theorem fixBounds_said : Rows.FixBoundsSaid :=
  OpenClaim.holds_of_wide 10 Try.f10 rfl rfl rfl rfl rfl rfl rfl ⟨rfl, rfl, rfl, rfl, rfl⟩ rfl rfl rfl rfl rfl (by kernel_rfl) Try.func10 (by kernel_rfl)
    (of_decide_eq_true (by kernel_rfl)) (by unfold Func.isWrapper; first | (rw [if_pos (by decide +kernel)]; kernel_rfl) | (rw [if_neg (by decide +kernel)]; exact ⟨rfl, rfl⟩))
    (fun os started H enc _ => fixBoundsLifted os started H enc)
#print axioms fixBounds_said
end Go.Proofs.Ytlbnmnaamphclaa


