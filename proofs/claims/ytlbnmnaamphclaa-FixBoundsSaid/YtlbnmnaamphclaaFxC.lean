import Derived.Test.YtlbnmnaamphclaaFxB
namespace Go.Proofs.Ytlbnmnaamphclaa
open Go Go.Eng Go.Fx Go.Proofs
set_option linter.unusedVariables false
set_option maxHeartbeats 2000000 in
theorem fix_stop_vc (a : Int) (a0 : (-9223372036854775808 : Int) ≤ a) (a1 : a ≤ (9223372036854775807 : Int)) (k : AV → List (Option Blk) → List Blk → Prop) (hk : ∀ (r : Int), r = stopI a → (-70368744177664 : Int) ≤ r ∧ r ≤ (70368744177664 : Int) → k (AV.int IntKind.i64 r) [] []) :
  ∀ (n1 : Int),
  (n1 = max a (-70368744177664 : Int)) →
  ((-9223372036854775808 : Int) ≤ n1 ∧ n1 ≤ (9223372036854775807 : Int)) →
  ∀ (n4 : Int),
  (n4 = min n1 (70368744177664 : Int)) →
  ((-9223372036854775808 : Int) ≤ n4 ∧ n4 ≤ (9223372036854775807 : Int)) →
  (k (AV.int IntKind.i64 n4) [] []) := by
  intro n1
  intro q1 -- n1 = max a (-70368744177664 : Int)
  intro ⟨l1, u1⟩ -- (-9223372036854775808 : Int) ≤ n1 ∧ n1 ≤ (9223372036854775807 : Int)
  intro n4
  intro q4 -- n4 = min n1 (70368744177664 : Int)
  intro ⟨l4, u4⟩ -- (-9223372036854775808 : Int) ≤ n4 ∧ n4 ≤ (9223372036854775807 : Int)
  exact by exact hk _ (by unfold stopI; omega) (by omega) -- k (AV.int IntKind.i64 n4) [] []

theorem fix_stop_ok : Holds Try.prog 29 (s1 stopI BD) := by
  refine fn_sound (env := mkEnv T0) (tab_ok T0_ok) Try.func29 Try.call29 fun args k h => ?_
  match args, h with
  | [.int .i64 a], h => exact ⟨by kernel_rfl, fun _ _ => none, fun _ _ => none, .cast (by kernel_rfl) (fix_stop_vc a h.1.1 h.1.2 k h.2)⟩
set_option maxHeartbeats 2000000 in
theorem stoplineref01_Stop_vc (a : Int) (a0 : (-9223372036854775808 : Int) ≤ a) (a1 : a ≤ (9223372036854775807 : Int)) (k : AV → List (Option Blk) → List Blk → Prop) (hk : ∀ (r : Int), r = stopI a → (-70368744177664 : Int) ≤ r ∧ r ≤ (70368744177664 : Int) → k (AV.int IntKind.i64 r) [] []) :
  br (decide (a > (70368744177664 : Int)))
   ((k (AV.int IntKind.i64 (70368744177664 : Int)) [] []))
   (br (decide (a < (-70368744177664 : Int)))
     ((k (AV.int IntKind.i64 (-70368744177664 : Int)) [] []))
     ((k (AV.int IntKind.i64 a) [] []))) := by
  refine brd (fun c1 => ?_) (fun c1 => ?_) -- decide (a > (70368744177664 : Int))
  · -- yes
    exact by exact hk _ (by unfold stopI; omega) (by omega) -- k (AV.int IntKind.i64 (70368744177664 : Int)) [] []
  · -- no
    refine brd (fun c2 => ?_) (fun c2 => ?_) -- decide (a < (-70368744177664 : Int))
    · -- yes
      exact by exact hk _ (by unfold stopI; omega) (by omega) -- k (AV.int IntKind.i64 (-70368744177664 : Int)) [] []
    · -- no
      exact by exact hk _ (by unfold stopI; omega) (by omega) -- k (AV.int IntKind.i64 a) [] []

theorem stoplineref01_Stop_ok : Holds Try.prog 31 (s1 stopI BD) := by
  refine fn_sound (env := mkEnv T0) (tab_ok T0_ok) Try.func31 Try.call31 fun args k h => ?_
  match args, h with
  | [.int .i64 a], h => exact ⟨by kernel_rfl, fun _ _ => none, fun _ _ => none, .cast (by kernel_rfl) (stoplineref01_Stop_vc a h.1.1 h.1.2 k h.2)⟩
set_option maxHeartbeats 2000000 in
theorem fix_size_vc (a : Int) (a0 : (-9223372036854775808 : Int) ≤ a) (a1 : a ≤ (9223372036854775807 : Int)) (k : AV → List (Option Blk) → List Blk → Prop) (hk : ∀ (u : Int), (u = if a < (0 : Int) then -a else a) → (0 : Int) ≤ u ∧ u ≤ (9223372036854775808 : Int) → k (AV.tup [AV.int IntKind.u64 u, AV.bool (decide (a < (0 : Int)))]) [] []) :
  br (decide (a < (0 : Int)))
   (∀ (n1 : Int),
    (n1 = IntKind.i64.wrap ((0 : Int) - a)) →
    ((-9223372036854775808 : Int) ≤ n1 ∧ n1 ≤ (9223372036854775807 : Int)) →
    ∀ (n4 : Int),
    (n4 = IntKind.u64.wrap n1) →
    ((0 : Int) ≤ n4 ∧ n4 ≤ (18446744073709551615 : Int)) →
    (k (AV.tup [AV.int IntKind.u64 n4, AV.bool true]) [] []))
   (∀ (n7 : Int),
    (n7 = IntKind.u64.wrap a) →
    ((0 : Int) ≤ n7 ∧ n7 ≤ (18446744073709551615 : Int)) →
    (k (AV.tup [AV.int IntKind.u64 n7, AV.bool false]) [] [])) := by
  refine brd (fun c1 => ?_) (fun c1 => ?_) -- decide (a < (0 : Int))
  · -- yes
    intro n1
    intro q1 -- n1 = IntKind.i64.wrap ((0 : Int) - a)
    rw [IntKind.wrap_i64] at q1
    intro ⟨l1, u1⟩ -- (-9223372036854775808 : Int) ≤ n1 ∧ n1 ≤ (9223372036854775807 : Int)
    intro n4
    intro q4 -- n4 = IntKind.u64.wrap n1
    rw [IntKind.wrap_u64] at q4
    intro ⟨l4, u4⟩ -- (0 : Int) ≤ n4 ∧ n4 ≤ (18446744073709551615 : Int)
    -- k (AV.tup [AV.int IntKind.u64 n4, AV.bool true]) [] []
    rw [show true = decide (a < 0) from (decide_eq_true c1).symm]; exact hk _ (by omega) (by omega)
  · -- no
    intro n7
    intro q7 -- n7 = IntKind.u64.wrap a
    rw [IntKind.wrap_u64] at q7
    intro ⟨l7, u7⟩ -- (0 : Int) ≤ n7 ∧ n7 ≤ (18446744073709551615 : Int)
    -- k (AV.tup [AV.int IntKind.u64 n7, AV.bool false]) [] []
    rw [show false = decide (a < 0) from (decide_eq_false c1).symm]; exact hk _ (by omega) (by omega)

theorem fix_size_ok : Holds Try.prog 32 sizeS := by
  refine fn_sound (env := mkEnv T0) (tab_ok T0_ok) Try.func32 Try.call32 fun args k h => ?_
  match args, h with
  | [.int .i64 a], h => exact ⟨by kernel_rfl, fun _ _ => none, fun _ _ => none, .cast (by kernel_rfl) (fix_size_vc a h.1.1 h.1.2 k h.2)⟩
set_option maxHeartbeats 2000000 in
theorem stoplineref01_abs_vc (a : Int) (a0 : (-9223372036854775808 : Int) ≤ a) (a1 : a ≤ (9223372036854775807 : Int)) (hb : (-9223372036854775808 : Int) < a) (k : AV → List (Option Blk) → List Blk → Prop) (hk : ∀ (r : Int), (r = if a < (0 : Int) then -a else a) → (0 : Int) ≤ r → k (AV.int IntKind.i64 r) [] []) :
  br (decide (a < (0 : Int)))
   (∀ (n1 : Int),
    (n1 = IntKind.i64.wrap ((0 : Int) - a)) →
    ((-9223372036854775808 : Int) ≤ n1 ∧ n1 ≤ (9223372036854775807 : Int)) →
    (k (AV.int IntKind.i64 n1) [] []))
   ((k (AV.int IntKind.i64 a) [] [])) := by
  refine brd (fun c1 => ?_) (fun c1 => ?_) -- decide (a < (0 : Int))
  · -- yes
    intro n1
    intro q1 -- n1 = IntKind.i64.wrap ((0 : Int) - a)
    rw [IntKind.wrap_i64] at q1
    intro ⟨l1, u1⟩ -- (-9223372036854775808 : Int) ≤ n1 ∧ n1 ≤ (9223372036854775807 : Int)
    exact by exact hk _ (by omega) (by omega) -- k (AV.int IntKind.i64 n1) [] []
  · -- no
    exact by exact hk _ (by omega) (by omega) -- k (AV.int IntKind.i64 a) [] []

theorem stoplineref01_abs_ok : Holds Try.prog 35 absS := by
  refine fn_sound (env := mkEnv T0) (tab_ok T0_ok) Try.func35 Try.call35 fun args k h => ?_
  match args, h with
  | [.int .i64 a], h => exact ⟨by kernel_rfl, fun _ _ => none, fun _ _ => none, .cast (by kernel_rfl) (stoplineref01_abs_vc a h.1.1 h.1.2 h.2.1 k h.2.2)⟩
set_option maxHeartbeats 2000000 in
theorem fix_Clamp_vc (a : Int) (a0 : (-9223372036854775808 : Int) ≤ a) (a1 : a ≤ (9223372036854775807 : Int)) (b : Int) (b0 : (-9223372036854775808 : Int) ≤ b) (b1 : b ≤ (9223372036854775807 : Int)) (c : Int) (c0 : (-9223372036854775808 : Int) ≤ c) (c1 : c ≤ (9223372036854775807 : Int)) (k : AV → List (Option Blk) → List Blk → Prop) (hk : ∀ (r : Int), r = clampI a b c → True → k (AV.int IntKind.i64 r) [] []) :
  br (bif decide (a < b) then true else decide (c < b))
   ((k (AV.int IntKind.i64 b) [] []))
   (br (decide (a > c))
     ((k (AV.int IntKind.i64 c) [] []))
     ((k (AV.int IntKind.i64 a) [] []))) := by
  refine br_intro (fun c1 => ?_) (fun c1 => ?_) -- bif decide (a < b) then true else decide (c < b)
  · -- yes
    simp at c1 -- a < b ∨ c < b
    exact by exact hk _ (by unfold clampI; omega) trivial -- k (AV.int IntKind.i64 b) [] []
  · -- no
    simp at c1 -- b ≤ a ∧ b ≤ c
    refine brd (fun c2 => ?_) (fun c2 => ?_) -- decide (a > c)
    · -- yes
      exact by exact hk _ (by unfold clampI; omega) trivial -- k (AV.int IntKind.i64 c) [] []
    · -- no
      exact by exact hk _ (by unfold clampI; omega) trivial -- k (AV.int IntKind.i64 a) [] []

theorem fix_Clamp_ok : Holds Try.prog 15 (s3 clampI fun _ => True) := by
  refine fn_sound (env := mkEnv T0) (tab_ok T0_ok) Try.func15 Try.call15 fun args k h => ?_
  match args, h with
  | [.int .i64 a, .int .i64 b, .int .i64 c], h => exact ⟨by kernel_rfl, fun _ _ => none, fun _ _ => none, .cast (by kernel_rfl) (fix_Clamp_vc a h.1.1 h.1.2 b h.2.1.1 h.2.1.2 c h.2.2.1.1 h.2.2.1.2 k h.2.2.2)⟩
set_option maxHeartbeats 2000000 in
theorem stoplineref01_Clamp_vc (a : Int) (a0 : (-9223372036854775808 : Int) ≤ a) (a1 : a ≤ (9223372036854775807 : Int)) (b : Int) (b0 : (-9223372036854775808 : Int) ≤ b) (b1 : b ≤ (9223372036854775807 : Int)) (c : Int) (c0 : (-9223372036854775808 : Int) ≤ c) (c1 : c ≤ (9223372036854775807 : Int)) (k : AV → List (Option Blk) → List Blk → Prop) (hk : ∀ (r : Int), r = clampI a b c → True → k (AV.int IntKind.i64 r) [] []) :
  br (bif decide (a < b) then true else decide (c < b))
   ((k (AV.int IntKind.i64 b) [] []))
   (br (decide (a > c))
     ((k (AV.int IntKind.i64 c) [] []))
     ((k (AV.int IntKind.i64 a) [] []))) := by
  refine br_intro (fun c1 => ?_) (fun c1 => ?_) -- bif decide (a < b) then true else decide (c < b)
  · -- yes
    simp at c1 -- a < b ∨ c < b
    exact by exact hk _ (by unfold clampI; omega) trivial -- k (AV.int IntKind.i64 b) [] []
  · -- no
    simp at c1 -- b ≤ a ∧ b ≤ c
    refine brd (fun c2 => ?_) (fun c2 => ?_) -- decide (a > c)
    · -- yes
      exact by exact hk _ (by unfold clampI; omega) trivial -- k (AV.int IntKind.i64 c) [] []
    · -- no
      exact by exact hk _ (by unfold clampI; omega) trivial -- k (AV.int IntKind.i64 a) [] []

theorem stoplineref01_Clamp_ok : Holds Try.prog 16 (s3 clampI fun _ => True) := by
  refine fn_sound (env := mkEnv T0) (tab_ok T0_ok) Try.func16 Try.call16 fun args k h => ?_
  match args, h with
  | [.int .i64 a, .int .i64 b, .int .i64 c], h => exact ⟨by kernel_rfl, fun _ _ => none, fun _ _ => none, .cast (by kernel_rfl) (stoplineref01_Clamp_vc a h.1.1 h.1.2 b h.2.1.1 h.2.1.2 c h.2.2.1.1 h.2.2.1.2 k h.2.2.2)⟩
set_option maxHeartbeats 2000000 in
theorem mul64_vc (x : Int) (x0 : (0 : Int) ≤ x) (x1 : x ≤ (18446744073709551615 : Int)) (y : Int) (y0 : (0 : Int) ≤ y) (y1 : y ≤ (18446744073709551615 : Int)) (k : AV → List (Option Blk) → List Blk → Prop) (hk : ∀ (h l : Int), h = x * y / (18446744073709551616 : Int) → l = x * y % (18446744073709551616 : Int) → (0 : Int) ≤ h ∧ h ≤ (18446744073709551615 : Int) → (0 : Int) ≤ l ∧ l ≤ (18446744073709551615 : Int) → k (AV.tup [AV.int IntKind.u64 h, AV.int IntKind.u64 l]) [] []) :
  ∀ (n1 : Int),
  (n1 = bits BinOp.and IntKind.u64 x (4294967295 : Int)) →
  ((0 : Int) ≤ n1 ∧ n1 ≤ (18446744073709551615 : Int)) →
  ((0 : Int) ≤ (32 : Int)) ∧
  ∀ (n4 : Int),
  (n4 = x.fdiv ((2 : Int) ^ min (Int.toNat (32 : Int)) IntKind.u64.bits)) →
  ((0 : Int) ≤ n4 ∧ n4 ≤ (18446744073709551615 : Int)) →
  ∀ (n7 : Int),
  (n7 = bits BinOp.and IntKind.u64 y (4294967295 : Int)) →
  ((0 : Int) ≤ n7 ∧ n7 ≤ (18446744073709551615 : Int)) →
  ((0 : Int) ≤ (32 : Int)) ∧
  ∀ (n10 : Int),
  (n10 = y.fdiv ((2 : Int) ^ min (Int.toNat (32 : Int)) IntKind.u64.bits)) →
  ((0 : Int) ≤ n10 ∧ n10 ≤ (18446744073709551615 : Int)) →
  ∀ (n13 : Int),
  (n13 = IntKind.u64.wrap (n1 * n7)) →
  ((0 : Int) ≤ n13 ∧ n13 ≤ (18446744073709551615 : Int)) →
  ∀ (n16 : Int),
  (n16 = IntKind.u64.wrap (n4 * n7)) →
  ((0 : Int) ≤ n16 ∧ n16 ≤ (18446744073709551615 : Int)) →
  ((0 : Int) ≤ (32 : Int)) ∧
  ∀ (n19 : Int),
  (n19 = n13.fdiv ((2 : Int) ^ min (Int.toNat (32 : Int)) IntKind.u64.bits)) →
  ((0 : Int) ≤ n19 ∧ n19 ≤ (18446744073709551615 : Int)) →
  ∀ (n22 : Int),
  (n22 = IntKind.u64.wrap (n16 + n19)) →
  ((0 : Int) ≤ n22 ∧ n22 ≤ (18446744073709551615 : Int)) →
  ∀ (n25 : Int),
  (n25 = bits BinOp.and IntKind.u64 n22 (4294967295 : Int)) →
  ((0 : Int) ≤ n25 ∧ n25 ≤ (18446744073709551615 : Int)) →
  ((0 : Int) ≤ (32 : Int)) ∧
  ∀ (n28 : Int),
  (n28 = n22.fdiv ((2 : Int) ^ min (Int.toNat (32 : Int)) IntKind.u64.bits)) →
  ((0 : Int) ≤ n28 ∧ n28 ≤ (18446744073709551615 : Int)) →
  ∀ (n31 : Int),
  (n31 = IntKind.u64.wrap (n1 * n10)) →
  ((0 : Int) ≤ n31 ∧ n31 ≤ (18446744073709551615 : Int)) →
  ∀ (n34 : Int),
  (n34 = IntKind.u64.wrap (n25 + n31)) →
  ((0 : Int) ≤ n34 ∧ n34 ≤ (18446744073709551615 : Int)) →
  ∀ (n37 : Int),
  (n37 = IntKind.u64.wrap (n4 * n10)) →
  ((0 : Int) ≤ n37 ∧ n37 ≤ (18446744073709551615 : Int)) →
  ∀ (n40 : Int),
  (n40 = IntKind.u64.wrap (n37 + n28)) →
  ((0 : Int) ≤ n40 ∧ n40 ≤ (18446744073709551615 : Int)) →
  ((0 : Int) ≤ (32 : Int)) ∧
  ∀ (n43 : Int),
  (n43 = n34.fdiv ((2 : Int) ^ min (Int.toNat (32 : Int)) IntKind.u64.bits)) →
  ((0 : Int) ≤ n43 ∧ n43 ≤ (18446744073709551615 : Int)) →
  ∀ (n46 : Int),
  (n46 = IntKind.u64.wrap (n40 + n43)) →
  ((0 : Int) ≤ n46 ∧ n46 ≤ (18446744073709551615 : Int)) →
  ∀ (n49 : Int),
  (n49 = IntKind.u64.wrap (x * y)) →
  ((0 : Int) ≤ n49 ∧ n49 ≤ (18446744073709551615 : Int)) →
  (k (AV.tup [AV.int IntKind.u64 n46, AV.int IntKind.u64 n49]) [] []) := by
  intro n1
  intro q1 -- n1 = bits BinOp.and IntKind.u64 x (4294967295 : Int)
  rw [and_u64 32 (by decide) 4294967295 4294967296 (by decide) (by decide) _ (by omega) (by omega)] at q1
  intro ⟨l1, u1⟩ -- (0 : Int) ≤ n1 ∧ n1 ≤ (18446744073709551615 : Int)
  refine ⟨by omega, ?_⟩ -- (0 : Int) ≤ (32 : Int)
  intro n4
  intro q4 -- n4 = x.fdiv ((2 : Int) ^ min (Int.toNat (32 : Int)) IntKind.u64.bits)
  rw [show (2 : Int) ^ min (Int.toNat (32 : Int)) IntKind.u64.bits = 4294967296 from rfl, Int.fdiv_eq_ediv_of_nonneg _ (by decide)] at q4
  intro ⟨l4, u4⟩ -- (0 : Int) ≤ n4 ∧ n4 ≤ (18446744073709551615 : Int)
  intro n7
  intro q7 -- n7 = bits BinOp.and IntKind.u64 y (4294967295 : Int)
  rw [and_u64 32 (by decide) 4294967295 4294967296 (by decide) (by decide) _ (by omega) (by omega)] at q7
  intro ⟨l7, u7⟩ -- (0 : Int) ≤ n7 ∧ n7 ≤ (18446744073709551615 : Int)
  refine ⟨by omega, ?_⟩ -- (0 : Int) ≤ (32 : Int)
  intro n10
  intro q10 -- n10 = y.fdiv ((2 : Int) ^ min (Int.toNat (32 : Int)) IntKind.u64.bits)
  rw [show (2 : Int) ^ min (Int.toNat (32 : Int)) IntKind.u64.bits = 4294967296 from rfl, Int.fdiv_eq_ediv_of_nonneg _ (by decide)] at q10
  intro ⟨l10, u10⟩ -- (0 : Int) ≤ n10 ∧ n10 ≤ (18446744073709551615 : Int)
  intro n13
  intro q13 -- n13 = IntKind.u64.wrap (n1 * n7)
  rw [IntKind.wrap_u64] at q13
  intro ⟨l13, u13⟩ -- (0 : Int) ≤ n13 ∧ n13 ≤ (18446744073709551615 : Int)
  intro n16
  intro q16 -- n16 = IntKind.u64.wrap (n4 * n7)
  rw [IntKind.wrap_u64] at q16
  intro ⟨l16, u16⟩ -- (0 : Int) ≤ n16 ∧ n16 ≤ (18446744073709551615 : Int)
  refine ⟨by omega, ?_⟩ -- (0 : Int) ≤ (32 : Int)
  intro n19
  intro q19 -- n19 = n13.fdiv ((2 : Int) ^ min (Int.toNat (32 : Int)) IntKind.u64.bits)
  rw [show (2 : Int) ^ min (Int.toNat (32 : Int)) IntKind.u64.bits = 4294967296 from rfl, Int.fdiv_eq_ediv_of_nonneg _ (by decide)] at q19
  intro ⟨l19, u19⟩ -- (0 : Int) ≤ n19 ∧ n19 ≤ (18446744073709551615 : Int)
  intro n22
  intro q22 -- n22 = IntKind.u64.wrap (n16 + n19)
  rw [IntKind.wrap_u64] at q22
  intro ⟨l22, u22⟩ -- (0 : Int) ≤ n22 ∧ n22 ≤ (18446744073709551615 : Int)
  intro n25
  intro q25 -- n25 = bits BinOp.and IntKind.u64 n22 (4294967295 : Int)
  rw [and_u64 32 (by decide) 4294967295 4294967296 (by decide) (by decide) _ (by omega) (by omega)] at q25
  intro ⟨l25, u25⟩ -- (0 : Int) ≤ n25 ∧ n25 ≤ (18446744073709551615 : Int)
  refine ⟨by omega, ?_⟩ -- (0 : Int) ≤ (32 : Int)
  intro n28
  intro q28 -- n28 = n22.fdiv ((2 : Int) ^ min (Int.toNat (32 : Int)) IntKind.u64.bits)
  rw [show (2 : Int) ^ min (Int.toNat (32 : Int)) IntKind.u64.bits = 4294967296 from rfl, Int.fdiv_eq_ediv_of_nonneg _ (by decide)] at q28
  intro ⟨l28, u28⟩ -- (0 : Int) ≤ n28 ∧ n28 ≤ (18446744073709551615 : Int)
  intro n31
  intro q31 -- n31 = IntKind.u64.wrap (n1 * n10)
  rw [IntKind.wrap_u64] at q31
  intro ⟨l31, u31⟩ -- (0 : Int) ≤ n31 ∧ n31 ≤ (18446744073709551615 : Int)
  intro n34
  intro q34 -- n34 = IntKind.u64.wrap (n25 + n31)
  rw [IntKind.wrap_u64] at q34
  intro ⟨l34, u34⟩ -- (0 : Int) ≤ n34 ∧ n34 ≤ (18446744073709551615 : Int)
  intro n37
  intro q37 -- n37 = IntKind.u64.wrap (n4 * n10)
  rw [IntKind.wrap_u64] at q37
  intro ⟨l37, u37⟩ -- (0 : Int) ≤ n37 ∧ n37 ≤ (18446744073709551615 : Int)
  intro n40
  intro q40 -- n40 = IntKind.u64.wrap (n37 + n28)
  rw [IntKind.wrap_u64] at q40
  intro ⟨l40, u40⟩ -- (0 : Int) ≤ n40 ∧ n40 ≤ (18446744073709551615 : Int)
  refine ⟨by omega, ?_⟩ -- (0 : Int) ≤ (32 : Int)
  intro n43
  intro q43 -- n43 = n34.fdiv ((2 : Int) ^ min (Int.toNat (32 : Int)) IntKind.u64.bits)
  rw [show (2 : Int) ^ min (Int.toNat (32 : Int)) IntKind.u64.bits = 4294967296 from rfl, Int.fdiv_eq_ediv_of_nonneg _ (by decide)] at q43
  intro ⟨l43, u43⟩ -- (0 : Int) ≤ n43 ∧ n43 ≤ (18446744073709551615 : Int)
  intro n46
  intro q46 -- n46 = IntKind.u64.wrap (n40 + n43)
  rw [IntKind.wrap_u64] at q46
  intro ⟨l46, u46⟩ -- (0 : Int) ≤ n46 ∧ n46 ≤ (18446744073709551615 : Int)
  intro n49
  intro q49 -- n49 = IntKind.u64.wrap (x * y)
  rw [IntKind.wrap_u64] at q49
  intro ⟨l49, u49⟩ -- (0 : Int) ≤ n49 ∧ n49 ≤ (18446744073709551615 : Int)
  -- k (AV.tup [AV.int IntKind.u64 n46, AV.int IntKind.u64 n49]) [] []
  have e := mul64_arith x y (by omega) (by omega) (by omega) (by omega)
  refine hk _ _ ?_ q49 ⟨l46, u46⟩ ⟨l49, u49⟩
  rw [← e]
  subst_vars
  omega

theorem mul64_ok : Holds Try.prog 33 mul64S := by
  refine fn_sound (env := mkEnv T0) (tab_ok T0_ok) Try.func33 Try.call33 fun args k h => ?_
  match args, h with
  | [.int .u64 x, .int .u64 y], h => exact ⟨by kernel_rfl, fun _ _ => none, fun _ _ => none, .cast (by kernel_rfl) (mul64_vc x h.1.1 h.1.2 y h.2.1.1 h.2.1.2 k h.2.2)⟩
set_option maxHeartbeats 2000000 in
theorem down_vc (a : Int) (a0 : (-9223372036854775808 : Int) ≤ a) (a1 : a ≤ (9223372036854775807 : Int)) (b : Int) (b0 : (-9223372036854775808 : Int) ≤ b) (b1 : b ≤ (9223372036854775807 : Int)) (hb : (0 : Int) < b) (k : AV → List (Option Blk) → List Blk → Prop) (hk : ∀ (r : Int), r = a / b → True → k (AV.int IntKind.i64 r) [] []) :
  (b ≠ (0 : Int)) ∧
  ∀ (n1 : Int),
  (n1 = IntKind.i64.wrap (a.tdiv b)) →
  ((-9223372036854775808 : Int) ≤ n1 ∧ n1 ≤ (9223372036854775807 : Int)) →
  (b ≠ (0 : Int)) ∧
  ∀ (n4 : Int),
  (n4 = a.tmod b) →
  ((-9223372036854775808 : Int) ≤ n4 ∧ n4 ≤ (9223372036854775807 : Int)) →
  br (bif n4 != (0 : Int) then decide (a < (0 : Int)) else false)
   (∀ (n7 : Int),
    (n7 = IntKind.i64.wrap (n1 - (1 : Int))) →
    ((-9223372036854775808 : Int) ≤ n7 ∧ n7 ≤ (9223372036854775807 : Int)) →
    (k (AV.int IntKind.i64 n7) [] []))
   ((k (AV.int IntKind.i64 n1) [] [])) := by
  refine ⟨by omega, ?_⟩ -- b ≠ (0 : Int)
  intro n1
  intro q1 -- n1 = IntKind.i64.wrap (a.tdiv b)
  rw [IntKind.wrap_i64] at q1
  intro ⟨l1, u1⟩ -- (-9223372036854775808 : Int) ≤ n1 ∧ n1 ≤ (9223372036854775807 : Int)
  refine ⟨by omega, ?_⟩ -- b ≠ (0 : Int)
  intro n4
  intro q4 -- n4 = a.tmod b
  intro ⟨l4, u4⟩ -- (-9223372036854775808 : Int) ≤ n4 ∧ n4 ≤ (9223372036854775807 : Int)
  refine br_intro (fun c1 => ?_) (fun c1 => ?_) -- bif n4 != (0 : Int) then decide (a < (0 : Int)) else false
  · -- yes
    simp at c1 -- ¬n4 = (0 : Int) ∧ a < (0 : Int)
    intro n7
    intro q7 -- n7 = IntKind.i64.wrap (n1 - (1 : Int))
    rw [IntKind.wrap_i64] at q7
    intro ⟨l7, u7⟩ -- (-9223372036854775808 : Int) ≤ n7 ∧ n7 ≤ (9223372036854775807 : Int)
    -- k (AV.int IntKind.i64 n7) [] []
    exact hk _ ((down_code a b n1 n4 n7 hb a0 a1 q1 q4).1 ⟨c1.1, c1.2⟩ q7) trivial
  · -- no
    simp at c1 -- ¬n4 = (0 : Int) → (0 : Int) ≤ a
    -- k (AV.int IntKind.i64 n1) [] []
    exact hk _ ((down_code a b n1 n4 0 hb a0 a1 q1 q4).2 c1) trivial

theorem down_ok : Holds Try.prog 30 downS := by
  refine fn_sound (env := mkEnv T0) (tab_ok T0_ok) Try.func30 Try.call30 fun args k h => ?_
  match args, h with
  | [.int .i64 a, .int .i64 b], h => exact ⟨by kernel_rfl, fun _ _ => none, fun _ _ => none, .cast (by kernel_rfl) (down_vc a h.1.1 h.1.2 b h.2.1.1 h.2.1.2 h.2.2.1 k h.2.2.2)⟩
theorem T1_ok : TabOk Try.prog T1 := ⟨fix_stop_ok, stoplineref01_Stop_ok, fix_size_ok, stoplineref01_abs_ok, fix_Clamp_ok, stoplineref01_Clamp_ok, mul64_ok, add64_ok, down_ok, trivial⟩
set_option maxHeartbeats 2000000 in
theorem fix_Add_vc (a : Int) (a0 : (-9223372036854775808 : Int) ≤ a) (a1 : a ≤ (9223372036854775807 : Int)) (b : Int) (b0 : (-9223372036854775808 : Int) ≤ b) (b1 : b ≤ (9223372036854775807 : Int)) (k : AV → List (Option Blk) → List Blk → Prop) (hk : ∀ (r : Int), r = addI a b → (-70368744177664 : Int) ≤ r ∧ r ≤ (70368744177664 : Int) → k (AV.int IntKind.i64 r) [] []) :
  (
   ((-9223372036854775808 : Int) ≤ a) ∧
   (a ≤ (9223372036854775807 : Int))) ∧
  ∀ (r_1 : Int),
  (r_1 = stopI a) →
  ((-70368744177664 : Int) ≤ r_1 ∧ r_1 ≤ (70368744177664 : Int)) →
  (
   ((-9223372036854775808 : Int) ≤ b) ∧
   (b ≤ (9223372036854775807 : Int))) ∧
  ∀ (r_4 : Int),
  (r_4 = stopI b) →
  ((-70368744177664 : Int) ≤ r_4 ∧ r_4 ≤ (70368744177664 : Int)) →
  ∀ (n7 : Int),
  (n7 = IntKind.i64.wrap (r_1 + r_4)) →
  ((-9223372036854775808 : Int) ≤ n7 ∧ n7 ≤ (9223372036854775807 : Int)) →
  (
   ((-9223372036854775808 : Int) ≤ n7) ∧
   (n7 ≤ (9223372036854775807 : Int))) ∧
  ∀ (r_10 : Int),
  (r_10 = stopI n7) →
  ((-70368744177664 : Int) ≤ r_10 ∧ r_10 ≤ (70368744177664 : Int)) →
  (k (AV.int IntKind.i64 r_10) [] []) := by
  refine ⟨by exact ⟨by assumption, by assumption⟩, ?_⟩ -- (-9223372036854775808 : Int) ≤ a ∧ a ≤ (9223372036854775807 : Int)
  intro r_1
  intro h1 -- r_1 = stopI a
  intro ⟨a2, b2⟩ -- (-70368744177664 : Int) ≤ r_1 ∧ r_1 ≤ (70368744177664 : Int)
  refine ⟨by exact ⟨by assumption, by assumption⟩, ?_⟩ -- (-9223372036854775808 : Int) ≤ b ∧ b ≤ (9223372036854775807 : Int)
  intro r_4
  intro h3 -- r_4 = stopI b
  intro ⟨a4, b4⟩ -- (-70368744177664 : Int) ≤ r_4 ∧ r_4 ≤ (70368744177664 : Int)
  intro n7
  intro q7 -- n7 = IntKind.i64.wrap (r_1 + r_4)
  rw [IntKind.wrap_i64] at q7
  intro ⟨l7, u7⟩ -- (-9223372036854775808 : Int) ≤ n7 ∧ n7 ≤ (9223372036854775807 : Int)
  refine ⟨by exact ⟨by assumption, by assumption⟩, ?_⟩ -- (-9223372036854775808 : Int) ≤ n7 ∧ n7 ≤ (9223372036854775807 : Int)
  intro r_10
  intro h5 -- r_10 = stopI n7
  intro ⟨a6, b6⟩ -- (-70368744177664 : Int) ≤ r_10 ∧ r_10 ≤ (70368744177664 : Int)
  exact by exact hk _ (by unfold addI stopI at *; omega) (by omega) -- k (AV.int IntKind.i64 r_10) [] []

theorem fix_Add_ok : Holds Try.prog 21 (s2 addI BD) := by
  refine fn_sound (env := mkEnv T1) (tab_ok T1_ok) Try.func21 Try.call21 fun args k h => ?_
  match args, h with
  | [.int .i64 a, .int .i64 b], h => exact ⟨by kernel_rfl, fun _ _ => none, fun _ _ => none, .cast (by kernel_rfl) (fix_Add_vc a h.1.1 h.1.2 b h.2.1.1 h.2.1.2 k h.2.2)⟩
set_option maxHeartbeats 2000000 in
theorem fix_Sub_vc (a : Int) (a0 : (-9223372036854775808 : Int) ≤ a) (a1 : a ≤ (9223372036854775807 : Int)) (b : Int) (b0 : (-9223372036854775808 : Int) ≤ b) (b1 : b ≤ (9223372036854775807 : Int)) (k : AV → List (Option Blk) → List Blk → Prop) (hk : ∀ (r : Int), r = subI a b → (-70368744177664 : Int) ≤ r ∧ r ≤ (70368744177664 : Int) → k (AV.int IntKind.i64 r) [] []) :
  (
   ((-9223372036854775808 : Int) ≤ a) ∧
   (a ≤ (9223372036854775807 : Int))) ∧
  ∀ (r_1 : Int),
  (r_1 = stopI a) →
  ((-70368744177664 : Int) ≤ r_1 ∧ r_1 ≤ (70368744177664 : Int)) →
  (
   ((-9223372036854775808 : Int) ≤ b) ∧
   (b ≤ (9223372036854775807 : Int))) ∧
  ∀ (r_4 : Int),
  (r_4 = stopI b) →
  ((-70368744177664 : Int) ≤ r_4 ∧ r_4 ≤ (70368744177664 : Int)) →
  ∀ (n7 : Int),
  (n7 = IntKind.i64.wrap (r_1 - r_4)) →
  ((-9223372036854775808 : Int) ≤ n7 ∧ n7 ≤ (9223372036854775807 : Int)) →
  (
   ((-9223372036854775808 : Int) ≤ n7) ∧
   (n7 ≤ (9223372036854775807 : Int))) ∧
  ∀ (r_10 : Int),
  (r_10 = stopI n7) →
  ((-70368744177664 : Int) ≤ r_10 ∧ r_10 ≤ (70368744177664 : Int)) →
  (k (AV.int IntKind.i64 r_10) [] []) := by
  refine ⟨by exact ⟨by assumption, by assumption⟩, ?_⟩ -- (-9223372036854775808 : Int) ≤ a ∧ a ≤ (9223372036854775807 : Int)
  intro r_1
  intro h1 -- r_1 = stopI a
  intro ⟨a2, b2⟩ -- (-70368744177664 : Int) ≤ r_1 ∧ r_1 ≤ (70368744177664 : Int)
  refine ⟨by exact ⟨by assumption, by assumption⟩, ?_⟩ -- (-9223372036854775808 : Int) ≤ b ∧ b ≤ (9223372036854775807 : Int)
  intro r_4
  intro h3 -- r_4 = stopI b
  intro ⟨a4, b4⟩ -- (-70368744177664 : Int) ≤ r_4 ∧ r_4 ≤ (70368744177664 : Int)
  intro n7
  intro q7 -- n7 = IntKind.i64.wrap (r_1 - r_4)
  rw [IntKind.wrap_i64] at q7
  intro ⟨l7, u7⟩ -- (-9223372036854775808 : Int) ≤ n7 ∧ n7 ≤ (9223372036854775807 : Int)
  refine ⟨by exact ⟨by assumption, by assumption⟩, ?_⟩ -- (-9223372036854775808 : Int) ≤ n7 ∧ n7 ≤ (9223372036854775807 : Int)
  intro r_10
  intro h5 -- r_10 = stopI n7
  intro ⟨a6, b6⟩ -- (-70368744177664 : Int) ≤ r_10 ∧ r_10 ≤ (70368744177664 : Int)
  exact by exact hk _ (by unfold subI stopI at *; omega) (by omega) -- k (AV.int IntKind.i64 r_10) [] []

theorem fix_Sub_ok : Holds Try.prog 23 (s2 subI BD) := by
  refine fn_sound (env := mkEnv T1) (tab_ok T1_ok) Try.func23 Try.call23 fun args k h => ?_
  match args, h with
  | [.int .i64 a, .int .i64 b], h => exact ⟨by kernel_rfl, fun _ _ => none, fun _ _ => none, .cast (by kernel_rfl) (fix_Sub_vc a h.1.1 h.1.2 b h.2.1.1 h.2.1.2 k h.2.2)⟩
set_option maxHeartbeats 2000000 in
theorem rAdd_vc (a : Int) (a0 : (-9223372036854775808 : Int) ≤ a) (a1 : a ≤ (9223372036854775807 : Int)) (b : Int) (b0 : (-9223372036854775808 : Int) ≤ b) (b1 : b ≤ (9223372036854775807 : Int)) (k : AV → List (Option Blk) → List Blk → Prop) (hk : ∀ (r : Int), r = addI a b → (-70368744177664 : Int) ≤ r ∧ r ≤ (70368744177664 : Int) → k (AV.int IntKind.i64 r) [] []) :
  (
   ((-9223372036854775808 : Int) ≤ a) ∧
   (a ≤ (9223372036854775807 : Int))) ∧
  ∀ (r_1 : Int),
  (r_1 = stopI a) →
  ((-70368744177664 : Int) ≤ r_1 ∧ r_1 ≤ (70368744177664 : Int)) →
  (
   ((-9223372036854775808 : Int) ≤ b) ∧
   (b ≤ (9223372036854775807 : Int))) ∧
  ∀ (r_4 : Int),
  (r_4 = stopI b) →
  ((-70368744177664 : Int) ≤ r_4 ∧ r_4 ≤ (70368744177664 : Int)) →
  ∀ (n7 : Int),
  (n7 = IntKind.i64.wrap (r_1 + r_4)) →
  ((-9223372036854775808 : Int) ≤ n7 ∧ n7 ≤ (9223372036854775807 : Int)) →
  (
   ((-9223372036854775808 : Int) ≤ n7) ∧
   (n7 ≤ (9223372036854775807 : Int))) ∧
  ∀ (r_10 : Int),
  (r_10 = stopI n7) →
  ((-70368744177664 : Int) ≤ r_10 ∧ r_10 ≤ (70368744177664 : Int)) →
  (k (AV.int IntKind.i64 r_10) [] []) := by
  refine ⟨by exact ⟨by assumption, by assumption⟩, ?_⟩ -- (-9223372036854775808 : Int) ≤ a ∧ a ≤ (9223372036854775807 : Int)
  intro r_1
  intro h1 -- r_1 = stopI a
  intro ⟨a2, b2⟩ -- (-70368744177664 : Int) ≤ r_1 ∧ r_1 ≤ (70368744177664 : Int)
  refine ⟨by exact ⟨by assumption, by assumption⟩, ?_⟩ -- (-9223372036854775808 : Int) ≤ b ∧ b ≤ (9223372036854775807 : Int)
  intro r_4
  intro h3 -- r_4 = stopI b
  intro ⟨a4, b4⟩ -- (-70368744177664 : Int) ≤ r_4 ∧ r_4 ≤ (70368744177664 : Int)
  intro n7
  intro q7 -- n7 = IntKind.i64.wrap (r_1 + r_4)
  rw [IntKind.wrap_i64] at q7
  intro ⟨l7, u7⟩ -- (-9223372036854775808 : Int) ≤ n7 ∧ n7 ≤ (9223372036854775807 : Int)
  refine ⟨by exact ⟨by assumption, by assumption⟩, ?_⟩ -- (-9223372036854775808 : Int) ≤ n7 ∧ n7 ≤ (9223372036854775807 : Int)
  intro r_10
  intro h5 -- r_10 = stopI n7
  intro ⟨a6, b6⟩ -- (-70368744177664 : Int) ≤ r_10 ∧ r_10 ≤ (70368744177664 : Int)
  exact by exact hk _ (by unfold addI stopI at *; omega) (by omega) -- k (AV.int IntKind.i64 r_10) [] []

theorem rAdd_ok : Holds Try.prog 22 (s2 addI BD) := by
  refine fn_sound (env := mkEnv T1) (tab_ok T1_ok) Try.func22 Try.call22 fun args k h => ?_
  match args, h with
  | [.int .i64 a, .int .i64 b], h => exact ⟨by kernel_rfl, fun _ _ => none, fun _ _ => none, .cast (by kernel_rfl) (rAdd_vc a h.1.1 h.1.2 b h.2.1.1 h.2.1.2 k h.2.2)⟩
set_option maxHeartbeats 2000000 in
theorem rSub_vc (a : Int) (a0 : (-9223372036854775808 : Int) ≤ a) (a1 : a ≤ (9223372036854775807 : Int)) (b : Int) (b0 : (-9223372036854775808 : Int) ≤ b) (b1 : b ≤ (9223372036854775807 : Int)) (k : AV → List (Option Blk) → List Blk → Prop) (hk : ∀ (r : Int), r = subI a b → (-70368744177664 : Int) ≤ r ∧ r ≤ (70368744177664 : Int) → k (AV.int IntKind.i64 r) [] []) :
  (
   ((-9223372036854775808 : Int) ≤ a) ∧
   (a ≤ (9223372036854775807 : Int))) ∧
  ∀ (r_1 : Int),
  (r_1 = stopI a) →
  ((-70368744177664 : Int) ≤ r_1 ∧ r_1 ≤ (70368744177664 : Int)) →
  (
   ((-9223372036854775808 : Int) ≤ b) ∧
   (b ≤ (9223372036854775807 : Int))) ∧
  ∀ (r_4 : Int),
  (r_4 = stopI b) →
  ((-70368744177664 : Int) ≤ r_4 ∧ r_4 ≤ (70368744177664 : Int)) →
  ∀ (n7 : Int),
  (n7 = IntKind.i64.wrap (r_1 - r_4)) →
  ((-9223372036854775808 : Int) ≤ n7 ∧ n7 ≤ (9223372036854775807 : Int)) →
  (
   ((-9223372036854775808 : Int) ≤ n7) ∧
   (n7 ≤ (9223372036854775807 : Int))) ∧
  ∀ (r_10 : Int),
  (r_10 = stopI n7) →
  ((-70368744177664 : Int) ≤ r_10 ∧ r_10 ≤ (70368744177664 : Int)) →
  (k (AV.int IntKind.i64 r_10) [] []) := by
  refine ⟨by exact ⟨by assumption, by assumption⟩, ?_⟩ -- (-9223372036854775808 : Int) ≤ a ∧ a ≤ (9223372036854775807 : Int)
  intro r_1
  intro h1 -- r_1 = stopI a
  intro ⟨a2, b2⟩ -- (-70368744177664 : Int) ≤ r_1 ∧ r_1 ≤ (70368744177664 : Int)
  refine ⟨by exact ⟨by assumption, by assumption⟩, ?_⟩ -- (-9223372036854775808 : Int) ≤ b ∧ b ≤ (9223372036854775807 : Int)
  intro r_4
  intro h3 -- r_4 = stopI b
  intro ⟨a4, b4⟩ -- (-70368744177664 : Int) ≤ r_4 ∧ r_4 ≤ (70368744177664 : Int)
  intro n7
  intro q7 -- n7 = IntKind.i64.wrap (r_1 - r_4)
  rw [IntKind.wrap_i64] at q7
  intro ⟨l7, u7⟩ -- (-9223372036854775808 : Int) ≤ n7 ∧ n7 ≤ (9223372036854775807 : Int)
  refine ⟨by exact ⟨by assumption, by assumption⟩, ?_⟩ -- (-9223372036854775808 : Int) ≤ n7 ∧ n7 ≤ (9223372036854775807 : Int)
  intro r_10
  intro h5 -- r_10 = stopI n7
  intro ⟨a6, b6⟩ -- (-70368744177664 : Int) ≤ r_10 ∧ r_10 ≤ (70368744177664 : Int)
  exact by exact hk _ (by unfold subI stopI at *; omega) (by omega) -- k (AV.int IntKind.i64 r_10) [] []

theorem rSub_ok : Holds Try.prog 24 (s2 subI BD) := by
  refine fn_sound (env := mkEnv T1) (tab_ok T1_ok) Try.func24 Try.call24 fun args k h => ?_
  match args, h with
  | [.int .i64 a, .int .i64 b], h => exact ⟨by kernel_rfl, fun _ _ => none, fun _ _ => none, .cast (by kernel_rfl) (rSub_vc a h.1.1 h.1.2 b h.2.1.1 h.2.1.2 k h.2.2)⟩
set_option maxHeartbeats 2000000 in
theorem fix_Of_vc (a : Int) (a0 : (-9223372036854775808 : Int) ≤ a) (a1 : a ≤ (9223372036854775807 : Int)) (k : AV → List (Option Blk) → List Blk → Prop) (hk : ∀ (r : Int), r = ofI a → (-70368744177664 : Int) ≤ r ∧ r ≤ (70368744177664 : Int) → k (AV.int IntKind.i64 r) [] []) :
  ∀ (n1 : Int),
  (n1 = max a (-1073741824 : Int)) →
  ((-9223372036854775808 : Int) ≤ n1 ∧ n1 ≤ (9223372036854775807 : Int)) →
  ∀ (n4 : Int),
  (n4 = min n1 (1073741824 : Int)) →
  ((-9223372036854775808 : Int) ≤ n4 ∧ n4 ≤ (9223372036854775807 : Int)) →
  ∀ (n7 : Int),
  (n7 = IntKind.i64.wrap (n4 * (65536 : Int))) →
  ((-9223372036854775808 : Int) ≤ n7 ∧ n7 ≤ (9223372036854775807 : Int)) →
  (k (AV.int IntKind.i64 n7) [] []) := by
  intro n1
  intro q1 -- n1 = max a (-1073741824 : Int)
  intro ⟨l1, u1⟩ -- (-9223372036854775808 : Int) ≤ n1 ∧ n1 ≤ (9223372036854775807 : Int)
  intro n4
  intro q4 -- n4 = min n1 (1073741824 : Int)
  intro ⟨l4, u4⟩ -- (-9223372036854775808 : Int) ≤ n4 ∧ n4 ≤ (9223372036854775807 : Int)
  intro n7
  intro q7 -- n7 = IntKind.i64.wrap (n4 * (65536 : Int))
  rw [IntKind.wrap_i64] at q7
  intro ⟨l7, u7⟩ -- (-9223372036854775808 : Int) ≤ n7 ∧ n7 ≤ (9223372036854775807 : Int)
  exact by exact hk _ (by unfold ofI; omega) (by omega) -- k (AV.int IntKind.i64 n7) [] []

theorem fix_Of_ok : Holds Try.prog 11 (s1 ofI BD) := by
  refine fn_sound (env := mkEnv T1) (tab_ok T1_ok) Try.func11 Try.call11 fun args k h => ?_
  match args, h with
  | [.int .i64 a], h => exact ⟨by kernel_rfl, fun _ _ => none, fun _ _ => none, .cast (by kernel_rfl) (fix_Of_vc a h.1.1 h.1.2 k h.2)⟩
set_option maxHeartbeats 2000000 in
theorem rOf_vc (a : Int) (a0 : (-9223372036854775808 : Int) ≤ a) (a1 : a ≤ (9223372036854775807 : Int)) (k : AV → List (Option Blk) → List Blk → Prop) (hk : ∀ (r : Int), r = ofI a → (-70368744177664 : Int) ≤ r ∧ r ≤ (70368744177664 : Int) → k (AV.int IntKind.i64 r) [] []) :
  br (decide (a > (1073741824 : Int)))
   ((k (AV.int IntKind.i64 (70368744177664 : Int)) [] []))
   (br (decide (a < (-1073741824 : Int)))
     ((k (AV.int IntKind.i64 (-70368744177664 : Int)) [] []))
     (∀ (n1 : Int),
      (n1 = IntKind.i64.wrap (a * (65536 : Int))) →
      ((-9223372036854775808 : Int) ≤ n1 ∧ n1 ≤ (9223372036854775807 : Int)) →
      (k (AV.int IntKind.i64 n1) [] []))) := by
  refine brd (fun c1 => ?_) (fun c1 => ?_) -- decide (a > (1073741824 : Int))
  · -- yes
    exact by exact hk _ (by unfold ofI; omega) (by omega) -- k (AV.int IntKind.i64 (70368744177664 : Int)) [] []
  · -- no
    refine brd (fun c2 => ?_) (fun c2 => ?_) -- decide (a < (-1073741824 : Int))
    · -- yes
      exact by exact hk _ (by unfold ofI; omega) (by omega) -- k (AV.int IntKind.i64 (-70368744177664 : Int)) [] []
    · -- no
      intro n1
      intro q1 -- n1 = IntKind.i64.wrap (a * (65536 : Int))
      rw [IntKind.wrap_i64] at q1
      intro ⟨l1, u1⟩ -- (-9223372036854775808 : Int) ≤ n1 ∧ n1 ≤ (9223372036854775807 : Int)
      exact by exact hk _ (by unfold ofI; omega) (by omega) -- k (AV.int IntKind.i64 n1) [] []

theorem rOf_ok : Holds Try.prog 12 (s1 ofI BD) := by
  refine fn_sound (env := mkEnv T1) (tab_ok T1_ok) Try.func12 Try.call12 fun args k h => ?_
  match args, h with
  | [.int .i64 a], h => exact ⟨by kernel_rfl, fun _ _ => none, fun _ _ => none, .cast (by kernel_rfl) (rOf_vc a h.1.1 h.1.2 k h.2)⟩
set_option maxHeartbeats 2000000 in
theorem fix_Round_vc (a : Int) (a0 : (-9223372036854775808 : Int) ≤ a) (a1 : a ≤ (9223372036854775807 : Int)) (k : AV → List (Option Blk) → List Blk → Prop) (hk : ∀ (r : Int), r = roundI a → (-1073741824 : Int) ≤ r ∧ r ≤ (1073741824 : Int) → k (AV.int IntKind.i64 r) [] []) :
  (
   ((-9223372036854775808 : Int) ≤ a) ∧
   (a ≤ (9223372036854775807 : Int))) ∧
  ∀ (r_1 : Int),
  (r_1 = stopI a) →
  ((-70368744177664 : Int) ≤ r_1 ∧ r_1 ≤ (70368744177664 : Int)) →
  ∀ (n4 : Int),
  (n4 = IntKind.i64.wrap (r_1 + (32768 : Int))) →
  ((-9223372036854775808 : Int) ≤ n4 ∧ n4 ≤ (9223372036854775807 : Int)) →
  ((0 : Int) ≤ (16 : Int)) ∧
  ∀ (n7 : Int),
  (n7 = n4.fdiv ((2 : Int) ^ min (Int.toNat (16 : Int)) IntKind.i64.bits)) →
  ((-9223372036854775808 : Int) ≤ n7 ∧ n7 ≤ (9223372036854775807 : Int)) →
  (k (AV.int IntKind.i64 n7) [] []) := by
  refine ⟨by exact ⟨by assumption, by assumption⟩, ?_⟩ -- (-9223372036854775808 : Int) ≤ a ∧ a ≤ (9223372036854775807 : Int)
  intro r_1
  intro h1 -- r_1 = stopI a
  intro ⟨a2, b2⟩ -- (-70368744177664 : Int) ≤ r_1 ∧ r_1 ≤ (70368744177664 : Int)
  intro n4
  intro q4 -- n4 = IntKind.i64.wrap (r_1 + (32768 : Int))
  rw [IntKind.wrap_i64] at q4
  intro ⟨l4, u4⟩ -- (-9223372036854775808 : Int) ≤ n4 ∧ n4 ≤ (9223372036854775807 : Int)
  refine ⟨by omega, ?_⟩ -- (0 : Int) ≤ (16 : Int)
  intro n7
  intro q7 -- n7 = n4.fdiv ((2 : Int) ^ min (Int.toNat (16 : Int)) IntKind.i64.bits)
  rw [show (2 : Int) ^ min (Int.toNat (16 : Int)) IntKind.i64.bits = 65536 from rfl, Int.fdiv_eq_ediv_of_nonneg _ (by decide)] at q7
  intro ⟨l7, u7⟩ -- (-9223372036854775808 : Int) ≤ n7 ∧ n7 ≤ (9223372036854775807 : Int)
  exact by exact hk _ (by unfold roundI; omega) (by omega) -- k (AV.int IntKind.i64 n7) [] []

theorem fix_Round_ok : Holds Try.prog 13 (s1 roundI fun r => -1073741824 ≤ r ∧ r ≤ 1073741824) := by
  refine fn_sound (env := mkEnv T1) (tab_ok T1_ok) Try.func13 Try.call13 fun args k h => ?_
  match args, h with
  | [.int .i64 a], h => exact ⟨by kernel_rfl, fun _ _ => none, fun _ _ => none, .cast (by kernel_rfl) (fix_Round_vc a h.1.1 h.1.2 k h.2)⟩
set_option maxHeartbeats 2000000 in
theorem rRound_vc (a : Int) (a0 : (-9223372036854775808 : Int) ≤ a) (a1 : a ≤ (9223372036854775807 : Int)) (k : AV → List (Option Blk) → List Blk → Prop) (hk : ∀ (r : Int), r = roundI a → (-1073741824 : Int) ≤ r ∧ r ≤ (1073741824 : Int) → k (AV.int IntKind.i64 r) [] []) :
  (
   ((-9223372036854775808 : Int) ≤ a) ∧
   (a ≤ (9223372036854775807 : Int))) ∧
  ∀ (r_1 : Int),
  (r_1 = stopI a) →
  ((-70368744177664 : Int) ≤ r_1 ∧ r_1 ≤ (70368744177664 : Int)) →
  ∀ (n4 : Int),
  (n4 = IntKind.i64.wrap (r_1 + (32768 : Int))) →
  ((-9223372036854775808 : Int) ≤ n4 ∧ n4 ≤ (9223372036854775807 : Int)) →
  (
   ((-9223372036854775808 : Int) ≤ n4) ∧
   (n4 ≤ (9223372036854775807 : Int))) ∧
  (
   ((-9223372036854775808 : Int) ≤ (65536 : Int)) ∧
   ((65536 : Int) ≤ (9223372036854775807 : Int))) ∧
  ((0 : Int) < (65536 : Int)) ∧
  ∀ (r_7 : Int),
  (r_7 = n4 / (65536 : Int)) →
  (True) →
  (k (AV.int IntKind.i64 r_7) [] []) := by
  refine ⟨by exact ⟨by assumption, by assumption⟩, ?_⟩ -- (-9223372036854775808 : Int) ≤ a ∧ a ≤ (9223372036854775807 : Int)
  intro r_1
  intro h1 -- r_1 = stopI a
  intro ⟨a2, b2⟩ -- (-70368744177664 : Int) ≤ r_1 ∧ r_1 ≤ (70368744177664 : Int)
  intro n4
  intro q4 -- n4 = IntKind.i64.wrap (r_1 + (32768 : Int))
  rw [IntKind.wrap_i64] at q4
  intro ⟨l4, u4⟩ -- (-9223372036854775808 : Int) ≤ n4 ∧ n4 ≤ (9223372036854775807 : Int)
  refine ⟨by exact ⟨by assumption, by assumption⟩, ?_⟩ -- (-9223372036854775808 : Int) ≤ n4 ∧ n4 ≤ (9223372036854775807 : Int)
  refine ⟨by omega, ?_⟩ -- (-9223372036854775808 : Int) ≤ (65536 : Int) ∧ (65536 : Int) ≤ (9223372036854775807 : Int)
  refine ⟨by omega, ?_⟩ -- (0 : Int) < (65536 : Int)
  intro r_7
  intro h3 -- r_7 = n4 / (65536 : Int)
  intro h4 -- True
  exact by exact hk _ (by unfold roundI; omega) (by omega) -- k (AV.int IntKind.i64 r_7) [] []

theorem rRound_ok : Holds Try.prog 14 (s1 roundI fun r => -1073741824 ≤ r ∧ r ≤ 1073741824) := by
  refine fn_sound (env := mkEnv T1) (tab_ok T1_ok) Try.func14 Try.call14 fun args k h => ?_
  match args, h with
  | [.int .i64 a], h => exact ⟨by kernel_rfl, fun _ _ => none, fun _ _ => none, .cast (by kernel_rfl) (rRound_vc a h.1.1 h.1.2 k h.2)⟩
set_option maxHeartbeats 2000000 in
theorem fix_Div_vc (a : Int) (a0 : (-9223372036854775808 : Int) ≤ a) (a1 : a ≤ (9223372036854775807 : Int)) (b : Int) (b0 : (-9223372036854775808 : Int) ≤ b) (b1 : b ≤ (9223372036854775807 : Int)) (k : AV → List (Option Blk) → List Blk → Prop) (hk : ∀ (q e : Int), q = divQ a b → e = divE b → (-70368744177664 : Int) ≤ q ∧ q ≤ (70368744177664 : Int) → e = (0 : Int) ∨ e = (10 : Int) → k (AV.tup [AV.int IntKind.i64 q, AV.int IntKind.i64 e]) [] []) :
  (
   ((-9223372036854775808 : Int) ≤ a) ∧
   (a ≤ (9223372036854775807 : Int))) ∧
  ∀ (r_1 : Int),
  (r_1 = stopI a) →
  ((-70368744177664 : Int) ≤ r_1 ∧ r_1 ≤ (70368744177664 : Int)) →
  (
   ((-9223372036854775808 : Int) ≤ b) ∧
   (b ≤ (9223372036854775807 : Int))) ∧
  ∀ (r_4 : Int),
  (r_4 = stopI b) →
  ((-70368744177664 : Int) ≤ r_4 ∧ r_4 ≤ (70368744177664 : Int)) →
  br (r_4 == (0 : Int))
   ((k (AV.tup [AV.int IntKind.i64 (0 : Int), AV.int IntKind.i64 (10 : Int)]) [] []))
   (∀ (n7 : Int),
    (n7 = IntKind.i64.wrap (r_1 * (65536 : Int))) →
    ((-9223372036854775808 : Int) ≤ n7 ∧ n7 ≤ (9223372036854775807 : Int)) →
    (r_4 ≠ (0 : Int)) ∧
    ∀ (n10 : Int),
    (n10 = IntKind.i64.wrap (n7.tdiv r_4)) →
    ((-9223372036854775808 : Int) ≤ n10 ∧ n10 ≤ (9223372036854775807 : Int)) →
    (r_4 ≠ (0 : Int)) ∧
    ∀ (n13 : Int),
    (n13 = n7.tmod r_4) →
    ((-9223372036854775808 : Int) ≤ n13 ∧ n13 ≤ (9223372036854775807 : Int)) →
    br (bif n13 != (0 : Int) then !decide (n7 < (0 : Int)) == decide (r_4 < (0 : Int)) else false)
     (∀ (n16 : Int),
      (n16 = IntKind.i64.wrap (n10 - (1 : Int))) →
      ((-9223372036854775808 : Int) ≤ n16 ∧ n16 ≤ (9223372036854775807 : Int)) →
      (
       ((-9223372036854775808 : Int) ≤ n16) ∧
       (n16 ≤ (9223372036854775807 : Int))) ∧
      ∀ (r_19 : Int),
      (r_19 = stopI n16) →
      ((-70368744177664 : Int) ≤ r_19 ∧ r_19 ≤ (70368744177664 : Int)) →
      (k (AV.tup [AV.int IntKind.i64 r_19, AV.int IntKind.i64 (0 : Int)]) [] []))
     ((
       ((-9223372036854775808 : Int) ≤ n10) ∧
       (n10 ≤ (9223372036854775807 : Int))) ∧
      ∀ (r_22 : Int),
      (r_22 = stopI n10) →
      ((-70368744177664 : Int) ≤ r_22 ∧ r_22 ≤ (70368744177664 : Int)) →
      (k (AV.tup [AV.int IntKind.i64 r_22, AV.int IntKind.i64 (0 : Int)]) [] []))) := by
  refine ⟨by exact ⟨by assumption, by assumption⟩, ?_⟩ -- (-9223372036854775808 : Int) ≤ a ∧ a ≤ (9223372036854775807 : Int)
  intro r_1
  intro h1 -- r_1 = stopI a
  intro ⟨a2, b2⟩ -- (-70368744177664 : Int) ≤ r_1 ∧ r_1 ≤ (70368744177664 : Int)
  refine ⟨by exact ⟨by assumption, by assumption⟩, ?_⟩ -- (-9223372036854775808 : Int) ≤ b ∧ b ≤ (9223372036854775807 : Int)
  intro r_4
  intro h3 -- r_4 = stopI b
  intro ⟨a4, b4⟩ -- (-70368744177664 : Int) ≤ r_4 ∧ r_4 ≤ (70368744177664 : Int)
  refine br_intro (fun c5 => ?_) (fun c5 => ?_) -- r_4 == (0 : Int)
  · -- yes
    simp at c5 -- r_4 = (0 : Int)
    -- k (AV.tup [AV.int IntKind.i64 (0 : Int), AV.int IntKind.i64 (10 : Int)]) [] []
    exact hk _ _ (by unfold divQ; rw [← h3, if_pos c5]) (by unfold divE; rw [← h3, if_pos c5]) (by omega) (by omega)
  · -- no
    simp at c5 -- ¬r_4 = (0 : Int)
    intro n7
    intro q7 -- n7 = IntKind.i64.wrap (r_1 * (65536 : Int))
    rw [IntKind.wrap_i64] at q7
    intro ⟨l7, u7⟩ -- (-9223372036854775808 : Int) ≤ n7 ∧ n7 ≤ (9223372036854775807 : Int)
    refine ⟨by assumption, ?_⟩ -- r_4 ≠ (0 : Int)
    intro n10
    intro q10 -- n10 = IntKind.i64.wrap (n7.tdiv r_4)
    rw [IntKind.wrap_i64] at q10
    intro ⟨l10, u10⟩ -- (-9223372036854775808 : Int) ≤ n10 ∧ n10 ≤ (9223372036854775807 : Int)
    refine ⟨by assumption, ?_⟩ -- r_4 ≠ (0 : Int)
    intro n13
    intro q13 -- n13 = n7.tmod r_4
    intro ⟨l13, u13⟩ -- (-9223372036854775808 : Int) ≤ n13 ∧ n13 ≤ (9223372036854775807 : Int)
    refine br_intro (fun c6 => ?_) (fun c6 => ?_) -- bif n13 != (0 : Int) then !decide (n7 < (0 : Int)) == decide (r_4 < (0 : Int)) else false
    · -- yes
      simp at c6 -- ¬n13 = (0 : Int) ∧ ¬(n7 < (0 : Int) ↔ r_4 < (0 : Int))
      intro n16
      intro q16 -- n16 = IntKind.i64.wrap (n10 - (1 : Int))
      rw [IntKind.wrap_i64] at q16
      intro ⟨l16, u16⟩ -- (-9223372036854775808 : Int) ≤ n16 ∧ n16 ≤ (9223372036854775807 : Int)
      refine ⟨by exact ⟨by assumption, by assumption⟩, ?_⟩ -- (-9223372036854775808 : Int) ≤ n16 ∧ n16 ≤ (9223372036854775807 : Int)
      intro r_19
      intro h7 -- r_19 = stopI n16
      intro ⟨a8, b8⟩ -- (-70368744177664 : Int) ≤ r_19 ∧ r_19 ≤ (70368744177664 : Int)
      -- k (AV.tup [AV.int IntKind.i64 r_19, AV.int IntKind.i64 (0 : Int)]) [] []
      have e := (div_code r_1 r_4 n7 n10 n13 ⟨a2, b2⟩ c5 q7 q10 q13).1 c6 n16 q16
      exact hk _ _ (by unfold divQ; rw [← h3, if_neg c5, ← h1, ← e]; exact h7) (by unfold divE; rw [← h3, if_neg c5]) ⟨a8, b8⟩ (by omega)
    · -- no
      simp at c6 -- ¬n13 = (0 : Int) → (n7 < (0 : Int) ↔ r_4 < (0 : Int))
      refine ⟨by exact ⟨by assumption, by assumption⟩, ?_⟩ -- (-9223372036854775808 : Int) ≤ n10 ∧ n10 ≤ (9223372036854775807 : Int)
      intro r_22
      intro h9 -- r_22 = stopI n10
      intro ⟨a10, b10⟩ -- (-70368744177664 : Int) ≤ r_22 ∧ r_22 ≤ (70368744177664 : Int)
      -- k (AV.tup [AV.int IntKind.i64 r_22, AV.int IntKind.i64 (0 : Int)]) [] []
      have e := (div_code r_1 r_4 n7 n10 n13 ⟨a2, b2⟩ c5 q7 q10 q13).2 c6
      exact hk _ _ (by unfold divQ; rw [← h3, if_neg c5, ← h1, ← e]; exact h9) (by unfold divE; rw [← h3, if_neg c5]) ⟨a10, b10⟩ (by omega)

theorem fix_Div_ok : Holds Try.prog 19 divS := by
  refine fn_sound (env := mkEnv T1) (tab_ok T1_ok) Try.func19 Try.call19 fun args k h => ?_
  match args, h with
  | [.int .i64 a, .int .i64 b], h => exact ⟨by kernel_rfl, fun _ _ => none, fun _ _ => none, .cast (by kernel_rfl) (fix_Div_vc a h.1.1 h.1.2 b h.2.1.1 h.2.1.2 k h.2.2)⟩
set_option maxHeartbeats 2000000 in
theorem rDiv_vc (a : Int) (a0 : (-9223372036854775808 : Int) ≤ a) (a1 : a ≤ (9223372036854775807 : Int)) (b : Int) (b0 : (-9223372036854775808 : Int) ≤ b) (b1 : b ≤ (9223372036854775807 : Int)) (k : AV → List (Option Blk) → List Blk → Prop) (hk : ∀ (q e : Int), q = divQ a b → e = divE b → (-70368744177664 : Int) ≤ q ∧ q ≤ (70368744177664 : Int) → e = (0 : Int) ∨ e = (10 : Int) → k (AV.tup [AV.int IntKind.i64 q, AV.int IntKind.i64 e]) [] []) :
  (
   ((-9223372036854775808 : Int) ≤ a) ∧
   (a ≤ (9223372036854775807 : Int))) ∧
  ∀ (r_1 : Int),
  (r_1 = stopI a) →
  ((-70368744177664 : Int) ≤ r_1 ∧ r_1 ≤ (70368744177664 : Int)) →
  (
   ((-9223372036854775808 : Int) ≤ b) ∧
   (b ≤ (9223372036854775807 : Int))) ∧
  ∀ (r_4 : Int),
  (r_4 = stopI b) →
  ((-70368744177664 : Int) ≤ r_4 ∧ r_4 ≤ (70368744177664 : Int)) →
  br (r_4 == (0 : Int))
   ((k (AV.tup [AV.int IntKind.i64 (0 : Int), AV.int IntKind.i64 (10 : Int)]) [] []))
   (br (decide (r_4 < (0 : Int)))
     (∀ (n7 : Int),
      (n7 = IntKind.i64.wrap ((0 : Int) - r_1)) →
      ((-9223372036854775808 : Int) ≤ n7 ∧ n7 ≤ (9223372036854775807 : Int)) →
      ∀ (n10 : Int),
      (n10 = IntKind.i64.wrap ((0 : Int) - r_4)) →
      ((-9223372036854775808 : Int) ≤ n10 ∧ n10 ≤ (9223372036854775807 : Int)) →
      ∀ (n13 : Int),
      (n13 = IntKind.i64.wrap (n7 * (65536 : Int))) →
      ((-9223372036854775808 : Int) ≤ n13 ∧ n13 ≤ (9223372036854775807 : Int)) →
      (
       ((-9223372036854775808 : Int) ≤ n13) ∧
       (n13 ≤ (9223372036854775807 : Int))) ∧
      (
       ((-9223372036854775808 : Int) ≤ n10) ∧
       (n10 ≤ (9223372036854775807 : Int))) ∧
      ((0 : Int) < n10) ∧
      ∀ (r_16 : Int),
      (r_16 = n13 / n10) →
      (True) →
      (
       ((-9223372036854775808 : Int) ≤ r_16) ∧
       (r_16 ≤ (9223372036854775807 : Int))) ∧
      ∀ (r_19 : Int),
      (r_19 = stopI r_16) →
      ((-70368744177664 : Int) ≤ r_19 ∧ r_19 ≤ (70368744177664 : Int)) →
      (k (AV.tup [AV.int IntKind.i64 r_19, AV.int IntKind.i64 (0 : Int)]) [] []))
     (∀ (n22 : Int),
      (n22 = IntKind.i64.wrap (r_1 * (65536 : Int))) →
      ((-9223372036854775808 : Int) ≤ n22 ∧ n22 ≤ (9223372036854775807 : Int)) →
      (
       ((-9223372036854775808 : Int) ≤ n22) ∧
       (n22 ≤ (9223372036854775807 : Int))) ∧
      (
       ((-9223372036854775808 : Int) ≤ r_4) ∧
       (r_4 ≤ (9223372036854775807 : Int))) ∧
      ((0 : Int) < r_4) ∧
      ∀ (r_25 : Int),
      (r_25 = n22 / r_4) →
      (True) →
      (
       ((-9223372036854775808 : Int) ≤ r_25) ∧
       (r_25 ≤ (9223372036854775807 : Int))) ∧
      ∀ (r_28 : Int),
      (r_28 = stopI r_25) →
      ((-70368744177664 : Int) ≤ r_28 ∧ r_28 ≤ (70368744177664 : Int)) →
      (k (AV.tup [AV.int IntKind.i64 r_28, AV.int IntKind.i64 (0 : Int)]) [] []))) := by
  refine ⟨by exact ⟨by assumption, by assumption⟩, ?_⟩ -- (-9223372036854775808 : Int) ≤ a ∧ a ≤ (9223372036854775807 : Int)
  intro r_1
  intro h1 -- r_1 = stopI a
  intro ⟨a2, b2⟩ -- (-70368744177664 : Int) ≤ r_1 ∧ r_1 ≤ (70368744177664 : Int)
  refine ⟨by exact ⟨by assumption, by assumption⟩, ?_⟩ -- (-9223372036854775808 : Int) ≤ b ∧ b ≤ (9223372036854775807 : Int)
  intro r_4
  intro h3 -- r_4 = stopI b
  intro ⟨a4, b4⟩ -- (-70368744177664 : Int) ≤ r_4 ∧ r_4 ≤ (70368744177664 : Int)
  refine br_intro (fun c5 => ?_) (fun c5 => ?_) -- r_4 == (0 : Int)
  · -- yes
    simp at c5 -- r_4 = (0 : Int)
    -- k (AV.tup [AV.int IntKind.i64 (0 : Int), AV.int IntKind.i64 (10 : Int)]) [] []
    exact hk _ _ (by unfold divQ; rw [← h3, if_pos c5]) (by unfold divE; rw [← h3, if_pos c5]) (by omega) (by omega)
  · -- no
    simp at c5 -- ¬r_4 = (0 : Int)
    refine brd (fun c6 => ?_) (fun c6 => ?_) -- decide (r_4 < (0 : Int))
    · -- yes
      intro n7
      intro q7 -- n7 = IntKind.i64.wrap ((0 : Int) - r_1)
      rw [IntKind.wrap_i64] at q7
      intro ⟨l7, u7⟩ -- (-9223372036854775808 : Int) ≤ n7 ∧ n7 ≤ (9223372036854775807 : Int)
      intro n10
      intro q10 -- n10 = IntKind.i64.wrap ((0 : Int) - r_4)
      rw [IntKind.wrap_i64] at q10
      intro ⟨l10, u10⟩ -- (-9223372036854775808 : Int) ≤ n10 ∧ n10 ≤ (9223372036854775807 : Int)
      intro n13
      intro q13 -- n13 = IntKind.i64.wrap (n7 * (65536 : Int))
      rw [IntKind.wrap_i64] at q13
      intro ⟨l13, u13⟩ -- (-9223372036854775808 : Int) ≤ n13 ∧ n13 ≤ (9223372036854775807 : Int)
      refine ⟨by exact ⟨by assumption, by assumption⟩, ?_⟩ -- (-9223372036854775808 : Int) ≤ n13 ∧ n13 ≤ (9223372036854775807 : Int)
      refine ⟨by exact ⟨by assumption, by assumption⟩, ?_⟩ -- (-9223372036854775808 : Int) ≤ n10 ∧ n10 ≤ (9223372036854775807 : Int)
      refine ⟨by omega, ?_⟩ -- (0 : Int) < n10
      intro r_16
      intro h7 -- r_16 = n13 / n10
      have e7 : -4611686018427387904 ≤ r_16 ∧ r_16 ≤ 4611686018427387904 := by (rw [h7]; exact ediv_bd n13 n10 4611686018427387904 (by omega) (by omega) (by omega) (by omega))
      intro h8 -- True
      refine ⟨by omega, ?_⟩ -- (-9223372036854775808 : Int) ≤ r_16 ∧ r_16 ≤ (9223372036854775807 : Int)
      intro r_19
      intro h9 -- r_19 = stopI r_16
      intro ⟨a10, b10⟩ -- (-70368744177664 : Int) ≤ r_19 ∧ r_19 ≤ (70368744177664 : Int)
      -- k (AV.tup [AV.int IntKind.i64 r_19, AV.int IntKind.i64 (0 : Int)]) [] []
      exact hk _ _ (by unfold divQ; rw [← h3, if_neg c5, ← h1, h9, h7, ← Int.neg_fdiv_neg, Int.fdiv_eq_ediv_of_nonneg _ (by omega)]; congr 2 <;> omega) (by unfold divE; rw [← h3, if_neg c5]) ⟨a10, b10⟩ (by omega)
    · -- no
      intro n22
      intro q22 -- n22 = IntKind.i64.wrap (r_1 * (65536 : Int))
      rw [IntKind.wrap_i64] at q22
      intro ⟨l22, u22⟩ -- (-9223372036854775808 : Int) ≤ n22 ∧ n22 ≤ (9223372036854775807 : Int)
      refine ⟨by exact ⟨by assumption, by assumption⟩, ?_⟩ -- (-9223372036854775808 : Int) ≤ n22 ∧ n22 ≤ (9223372036854775807 : Int)
      refine ⟨by omega, ?_⟩ -- (-9223372036854775808 : Int) ≤ r_4 ∧ r_4 ≤ (9223372036854775807 : Int)
      refine ⟨by omega, ?_⟩ -- (0 : Int) < r_4
      intro r_25
      intro h11 -- r_25 = n22 / r_4
      have e11 : -4611686018427387904 ≤ r_25 ∧ r_25 ≤ 4611686018427387904 := by (rw [h11]; exact ediv_bd n22 r_4 4611686018427387904 (by omega) (by omega) (by omega) (by omega))
      intro h12 -- True
      refine ⟨by omega, ?_⟩ -- (-9223372036854775808 : Int) ≤ r_25 ∧ r_25 ≤ (9223372036854775807 : Int)
      intro r_28
      intro h13 -- r_28 = stopI r_25
      intro ⟨a14, b14⟩ -- (-70368744177664 : Int) ≤ r_28 ∧ r_28 ≤ (70368744177664 : Int)
      -- k (AV.tup [AV.int IntKind.i64 r_28, AV.int IntKind.i64 (0 : Int)]) [] []
      exact hk _ _ (by unfold divQ; rw [← h3, if_neg c5, ← h1, h13, h11, Int.fdiv_eq_ediv_of_nonneg _ (by omega)]; congr 2; omega) (by unfold divE; rw [← h3, if_neg c5]) ⟨a14, b14⟩ (by omega)

theorem rDiv_ok : Holds Try.prog 20 divS := by
  refine fn_sound (env := mkEnv T1) (tab_ok T1_ok) Try.func20 Try.call20 fun args k h => ?_
  match args, h with
  | [.int .i64 a, .int .i64 b], h => exact ⟨by kernel_rfl, fun _ _ => none, fun _ _ => none, .cast (by kernel_rfl) (rDiv_vc a h.1.1 h.1.2 b h.2.1.1 h.2.1.2 k h.2.2)⟩
set_option maxHeartbeats 2000000 in
theorem fix_Mul_vc (a : Int) (a0 : (-9223372036854775808 : Int) ≤ a) (a1 : a ≤ (9223372036854775807 : Int)) (b : Int) (b0 : (-9223372036854775808 : Int) ≤ b) (b1 : b ≤ (9223372036854775807 : Int)) (k : AV → List (Option Blk) → List Blk → Prop) (hk : ∀ (r : Int), r = mulI a b → (-70368744177664 : Int) ≤ r ∧ r ≤ (70368744177664 : Int) → k (AV.int IntKind.i64 r) [] []) :
  (
   ((-9223372036854775808 : Int) ≤ a) ∧
   (a ≤ (9223372036854775807 : Int))) ∧
  ∀ (r_1 : Int),
  (r_1 = stopI a) →
  ((-70368744177664 : Int) ≤ r_1 ∧ r_1 ≤ (70368744177664 : Int)) →
  (
   ((-9223372036854775808 : Int) ≤ r_1) ∧
   (r_1 ≤ (9223372036854775807 : Int))) ∧
  ∀ (u_4 : Int),
  (u_4 = if r_1 < (0 : Int) then -r_1 else r_1) →
  ((0 : Int) ≤ u_4 ∧ u_4 ≤ (9223372036854775808 : Int)) →
  (
   ((-9223372036854775808 : Int) ≤ b) ∧
   (b ≤ (9223372036854775807 : Int))) ∧
  ∀ (r_7 : Int),
  (r_7 = stopI b) →
  ((-70368744177664 : Int) ≤ r_7 ∧ r_7 ≤ (70368744177664 : Int)) →
  (
   ((-9223372036854775808 : Int) ≤ r_7) ∧
   (r_7 ≤ (9223372036854775807 : Int))) ∧
  ∀ (u_10 : Int),
  (u_10 = if r_7 < (0 : Int) then -r_7 else r_7) →
  ((0 : Int) ≤ u_10 ∧ u_10 ≤ (9223372036854775808 : Int)) →
  (
   ((0 : Int) ≤ u_4) ∧
   (u_4 ≤ (18446744073709551615 : Int))) ∧
  (
   ((0 : Int) ≤ u_10) ∧
   (u_10 ≤ (18446744073709551615 : Int))) ∧
  ∀ (h_13 : Int),
  ∀ (l_14 : Int),
  (h_13 = u_4 * u_10 / (18446744073709551616 : Int)) →
  (l_14 = u_4 * u_10 % (18446744073709551616 : Int)) →
  ((0 : Int) ≤ h_13 ∧ h_13 ≤ (18446744073709551615 : Int)) →
  ((0 : Int) ≤ l_14 ∧ l_14 ≤ (18446744073709551615 : Int)) →
  br (!decide (r_1 < (0 : Int)) == decide (r_7 < (0 : Int)))
   ((
     ((0 : Int) ≤ l_14) ∧
     (l_14 ≤ (18446744073709551615 : Int))) ∧
    (
     ((0 : Int) ≤ (65535 : Int)) ∧
     ((65535 : Int) ≤ (18446744073709551615 : Int))) ∧
    (
     ((0 : Int) ≤ (0 : Int)) ∧
     ((0 : Int) ≤ (1 : Int))) ∧
    ∀ (s_19 : Int),
    ∀ (d_20 : Int),
    (s_19 = (l_14 + (65535 : Int) + (0 : Int)) % (18446744073709551616 : Int)) →
    (d_20 = (l_14 + (65535 : Int) + (0 : Int)) / (18446744073709551616 : Int)) →
    ((0 : Int) ≤ s_19 ∧ s_19 ≤ (18446744073709551615 : Int)) →
    ((0 : Int) ≤ d_20 ∧ d_20 ≤ (1 : Int)) →
    ∀ (n25 : Int),
    (n25 = IntKind.u64.wrap (h_13 + d_20)) →
    ((0 : Int) ≤ n25 ∧ n25 ≤ (18446744073709551615 : Int)) →
    ((0 : Int) ≤ (48 : Int)) ∧
    ∀ (n28 : Int),
    (n28 = IntKind.u64.wrap (n25 * (2 : Int) ^ min (Int.toNat (48 : Int)) IntKind.u64.bits)) →
    ((0 : Int) ≤ n28 ∧ n28 ≤ (18446744073709551615 : Int)) →
    ((0 : Int) ≤ (16 : Int)) ∧
    ∀ (n31 : Int),
    (n31 = s_19.fdiv ((2 : Int) ^ min (Int.toNat (16 : Int)) IntKind.u64.bits)) →
    ((0 : Int) ≤ n31 ∧ n31 ≤ (18446744073709551615 : Int)) →
    ∀ (n34 : Int),
    (n34 = bits BinOp.or IntKind.u64 n28 n31) →
    ((0 : Int) ≤ n34 ∧ n34 ≤ (18446744073709551615 : Int)) →
    br (decide (n25 ≥ (65536 : Int)))
     (br (!decide (r_1 < (0 : Int)) == decide (r_7 < (0 : Int)))
       ((k (AV.int IntKind.i64 (-70368744177664 : Int)) [] []))
       ((k (AV.int IntKind.i64 (70368744177664 : Int)) [] [])))
     (br (!decide (r_1 < (0 : Int)) == decide (r_7 < (0 : Int)))
       (∀ (n37 : Int),
        (n37 = min n34 (70368744177665 : Int)) →
        ((0 : Int) ≤ n37 ∧ n37 ≤ (18446744073709551615 : Int)) →
        ∀ (n40 : Int),
        (n40 = IntKind.i64.wrap n37) →
        ((-9223372036854775808 : Int) ≤ n40 ∧ n40 ≤ (9223372036854775807 : Int)) →
        ∀ (n43 : Int),
        (n43 = IntKind.i64.wrap ((0 : Int) - n40)) →
        ((-9223372036854775808 : Int) ≤ n43 ∧ n43 ≤ (9223372036854775807 : Int)) →
        (
         ((-9223372036854775808 : Int) ≤ n43) ∧
         (n43 ≤ (9223372036854775807 : Int))) ∧
        ∀ (r_46 : Int),
        (r_46 = stopI n43) →
        ((-70368744177664 : Int) ≤ r_46 ∧ r_46 ≤ (70368744177664 : Int)) →
        (k (AV.int IntKind.i64 r_46) [] []))
       (∀ (n49 : Int),
        (n49 = min n34 (70368744177665 : Int)) →
        ((0 : Int) ≤ n49 ∧ n49 ≤ (18446744073709551615 : Int)) →
        ∀ (n52 : Int),
        (n52 = IntKind.i64.wrap n49) →
        ((-9223372036854775808 : Int) ≤ n52 ∧ n52 ≤ (9223372036854775807 : Int)) →
        (
         ((-9223372036854775808 : Int) ≤ n52) ∧
         (n52 ≤ (9223372036854775807 : Int))) ∧
        ∀ (r_55 : Int),
        (r_55 = stopI n52) →
        ((-70368744177664 : Int) ≤ r_55 ∧ r_55 ≤ (70368744177664 : Int)) →
        (k (AV.int IntKind.i64 r_55) [] []))))
   (((0 : Int) ≤ (48 : Int)) ∧
    ∀ (n58 : Int),
    (n58 = IntKind.u64.wrap (h_13 * (2 : Int) ^ min (Int.toNat (48 : Int)) IntKind.u64.bits)) →
    ((0 : Int) ≤ n58 ∧ n58 ≤ (18446744073709551615 : Int)) →
    ((0 : Int) ≤ (16 : Int)) ∧
    ∀ (n61 : Int),
    (n61 = l_14.fdiv ((2 : Int) ^ min (Int.toNat (16 : Int)) IntKind.u64.bits)) →
    ((0 : Int) ≤ n61 ∧ n61 ≤ (18446744073709551615 : Int)) →
    ∀ (n64 : Int),
    (n64 = bits BinOp.or IntKind.u64 n58 n61) →
    ((0 : Int) ≤ n64 ∧ n64 ≤ (18446744073709551615 : Int)) →
    br (decide (h_13 ≥ (65536 : Int)))
     (br (!decide (r_1 < (0 : Int)) == decide (r_7 < (0 : Int)))
       ((k (AV.int IntKind.i64 (-70368744177664 : Int)) [] []))
       ((k (AV.int IntKind.i64 (70368744177664 : Int)) [] [])))
     (br (!decide (r_1 < (0 : Int)) == decide (r_7 < (0 : Int)))
       (∀ (n67 : Int),
        (n67 = min n64 (70368744177665 : Int)) →
        ((0 : Int) ≤ n67 ∧ n67 ≤ (18446744073709551615 : Int)) →
        ∀ (n70 : Int),
        (n70 = IntKind.i64.wrap n67) →
        ((-9223372036854775808 : Int) ≤ n70 ∧ n70 ≤ (9223372036854775807 : Int)) →
        ∀ (n73 : Int),
        (n73 = IntKind.i64.wrap ((0 : Int) - n70)) →
        ((-9223372036854775808 : Int) ≤ n73 ∧ n73 ≤ (9223372036854775807 : Int)) →
        (
         ((-9223372036854775808 : Int) ≤ n73) ∧
         (n73 ≤ (9223372036854775807 : Int))) ∧
        ∀ (r_76 : Int),
        (r_76 = stopI n73) →
        ((-70368744177664 : Int) ≤ r_76 ∧ r_76 ≤ (70368744177664 : Int)) →
        (k (AV.int IntKind.i64 r_76) [] []))
       (∀ (n79 : Int),
        (n79 = min n64 (70368744177665 : Int)) →
        ((0 : Int) ≤ n79 ∧ n79 ≤ (18446744073709551615 : Int)) →
        ∀ (n82 : Int),
        (n82 = IntKind.i64.wrap n79) →
        ((-9223372036854775808 : Int) ≤ n82 ∧ n82 ≤ (9223372036854775807 : Int)) →
        (
         ((-9223372036854775808 : Int) ≤ n82) ∧
         (n82 ≤ (9223372036854775807 : Int))) ∧
        ∀ (r_85 : Int),
        (r_85 = stopI n82) →
        ((-70368744177664 : Int) ≤ r_85 ∧ r_85 ≤ (70368744177664 : Int)) →
        (k (AV.int IntKind.i64 r_85) [] [])))) := by
  refine ⟨by exact ⟨by assumption, by assumption⟩, ?_⟩ -- (-9223372036854775808 : Int) ≤ a ∧ a ≤ (9223372036854775807 : Int)
  intro r_1
  intro h1 -- r_1 = stopI a
  intro ⟨a2, b2⟩ -- (-70368744177664 : Int) ≤ r_1 ∧ r_1 ≤ (70368744177664 : Int)
  refine ⟨by omega, ?_⟩ -- (-9223372036854775808 : Int) ≤ r_1 ∧ r_1 ≤ (9223372036854775807 : Int)
  intro u_4
  intro h3 -- u_4 = if r_1 < (0 : Int) then -r_1 else r_1
  intro ⟨a4, b4⟩ -- (0 : Int) ≤ u_4 ∧ u_4 ≤ (9223372036854775808 : Int)
  refine ⟨by exact ⟨by assumption, by assumption⟩, ?_⟩ -- (-9223372036854775808 : Int) ≤ b ∧ b ≤ (9223372036854775807 : Int)
  intro r_7
  intro h5 -- r_7 = stopI b
  intro ⟨a6, b6⟩ -- (-70368744177664 : Int) ≤ r_7 ∧ r_7 ≤ (70368744177664 : Int)
  refine ⟨by omega, ?_⟩ -- (-9223372036854775808 : Int) ≤ r_7 ∧ r_7 ≤ (9223372036854775807 : Int)
  intro u_10
  intro h7 -- u_10 = if r_7 < (0 : Int) then -r_7 else r_7
  intro ⟨a8, b8⟩ -- (0 : Int) ≤ u_10 ∧ u_10 ≤ (9223372036854775808 : Int)
  refine ⟨by omega, ?_⟩ -- (0 : Int) ≤ u_4 ∧ u_4 ≤ (18446744073709551615 : Int)
  refine ⟨by omega, ?_⟩ -- (0 : Int) ≤ u_10 ∧ u_10 ≤ (18446744073709551615 : Int)
  intro h_13
  intro l_14
  intro h9 -- h_13 = u_4 * u_10 / (18446744073709551616 : Int)
  intro h10 -- l_14 = u_4 * u_10 % (18446744073709551616 : Int)
  intro ⟨a11, b11⟩ -- (0 : Int) ≤ h_13 ∧ h_13 ≤ (18446744073709551615 : Int)
  intro ⟨a12, b12⟩ -- (0 : Int) ≤ l_14 ∧ l_14 ≤ (18446744073709551615 : Int)
  have p4 : 0 ≤ u_4 ∧ u_4 ≤ 70368744177664 := by exact abs_bd _ ⟨a2, b2⟩ h3
  have p10 : 0 ≤ u_10 ∧ u_10 ≤ 70368744177664 := by exact abs_bd _ ⟨a6, b6⟩ h7
  have z : 0 ≤ u_4 * u_10 ∧ u_4 * u_10 ≤ 4951760157141521099596496896 := by exact mul_upto p4 p10 (by decide) (by decide)
  refine br_intro (fun c13 => ?_) (fun c13 => ?_) -- !decide (r_1 < (0 : Int)) == decide (r_7 < (0 : Int))
  · -- yes
    simp at c13 -- ¬(r_1 < (0 : Int) ↔ r_7 < (0 : Int))
    refine ⟨by exact ⟨by assumption, by assumption⟩, ?_⟩ -- (0 : Int) ≤ l_14 ∧ l_14 ≤ (18446744073709551615 : Int)
    refine ⟨by omega, ?_⟩ -- (0 : Int) ≤ (65535 : Int) ∧ (65535 : Int) ≤ (18446744073709551615 : Int)
    refine ⟨by omega, ?_⟩ -- (0 : Int) ≤ (0 : Int) ∧ (0 : Int) ≤ (1 : Int)
    intro s_19
    intro d_20
    intro h14 -- s_19 = (l_14 + (65535 : Int) + (0 : Int)) % (18446744073709551616 : Int)
    intro h15 -- d_20 = (l_14 + (65535 : Int) + (0 : Int)) / (18446744073709551616 : Int)
    intro ⟨a16, b16⟩ -- (0 : Int) ≤ s_19 ∧ s_19 ≤ (18446744073709551615 : Int)
    intro ⟨a17, b17⟩ -- (0 : Int) ≤ d_20 ∧ d_20 ≤ (1 : Int)
    intro n25
    intro q25 -- n25 = IntKind.u64.wrap (h_13 + d_20)
    rw [IntKind.wrap_u64] at q25
    intro ⟨l25, u25⟩ -- (0 : Int) ≤ n25 ∧ n25 ≤ (18446744073709551615 : Int)
    refine ⟨by omega, ?_⟩ -- (0 : Int) ≤ (48 : Int)
    intro n28
    intro q28 -- n28 = IntKind.u64.wrap (n25 * (2 : Int) ^ min (Int.toNat (48 : Int)) IntKind.u64.bits)
    rw [show (2 : Int) ^ min (Int.toNat (48 : Int)) IntKind.u64.bits = 281474976710656 from rfl] at q28
    rw [IntKind.wrap_u64] at q28
    intro ⟨l28, u28⟩ -- (0 : Int) ≤ n28 ∧ n28 ≤ (18446744073709551615 : Int)
    refine ⟨by omega, ?_⟩ -- (0 : Int) ≤ (16 : Int)
    intro n31
    intro q31 -- n31 = s_19.fdiv ((2 : Int) ^ min (Int.toNat (16 : Int)) IntKind.u64.bits)
    rw [show (2 : Int) ^ min (Int.toNat (16 : Int)) IntKind.u64.bits = 65536 from rfl, Int.fdiv_eq_ediv_of_nonneg _ (by decide)] at q31
    intro ⟨l31, u31⟩ -- (0 : Int) ≤ n31 ∧ n31 ≤ (18446744073709551615 : Int)
    intro n34
    intro q34 -- n34 = bits BinOp.or IntKind.u64 n28 n31
    have o34 : n34 = n28 + n31 := by (rw [q34]; exact or_sum 48 n28 n31 281474976710656 (by decide) ⟨l28, u28⟩ ⟨l31, by omega⟩ (by decide) (by omega))
    intro ⟨l34, u34⟩ -- (0 : Int) ≤ n34 ∧ n34 ≤ (18446744073709551615 : Int)
    refine brd (fun c18 => ?_) (fun c18 => ?_) -- decide (n25 ≥ (65536 : Int))
    · -- yes
      refine br_intro (fun c19 => ?_) (fun c19 => ?_) -- !decide (r_1 < (0 : Int)) == decide (r_7 < (0 : Int))
      · -- yes
        simp at c19 -- ¬(r_1 < (0 : Int) ↔ r_7 < (0 : Int))
        -- k (AV.int IntKind.i64 (-70368744177664 : Int)) [] []
        exact hk _ (by unfold mulI; rw [← h1, ← h5, abs_diff h3 h7 c13]; unfold stopI; omega) (by omega)
      · -- no
        simp at c19 -- r_1 < (0 : Int) ↔ r_7 < (0 : Int)
        -- k (AV.int IntKind.i64 (70368744177664 : Int)) [] []
        exact absurd c19 c13
    · -- no
      refine br_intro (fun c20 => ?_) (fun c20 => ?_) -- !decide (r_1 < (0 : Int)) == decide (r_7 < (0 : Int))
      · -- yes
        simp at c20 -- ¬(r_1 < (0 : Int) ↔ r_7 < (0 : Int))
        intro n37
        intro q37 -- n37 = min n34 (70368744177665 : Int)
        intro ⟨l37, u37⟩ -- (0 : Int) ≤ n37 ∧ n37 ≤ (18446744073709551615 : Int)
        intro n40
        intro q40 -- n40 = IntKind.i64.wrap n37
        rw [IntKind.wrap_i64] at q40
        intro ⟨l40, u40⟩ -- (-9223372036854775808 : Int) ≤ n40 ∧ n40 ≤ (9223372036854775807 : Int)
        intro n43
        intro q43 -- n43 = IntKind.i64.wrap ((0 : Int) - n40)
        rw [IntKind.wrap_i64] at q43
        intro ⟨l43, u43⟩ -- (-9223372036854775808 : Int) ≤ n43 ∧ n43 ≤ (9223372036854775807 : Int)
        refine ⟨by exact ⟨by assumption, by assumption⟩, ?_⟩ -- (-9223372036854775808 : Int) ≤ n43 ∧ n43 ≤ (9223372036854775807 : Int)
        intro r_46
        intro h21 -- r_46 = stopI n43
        intro ⟨a22, b22⟩ -- (-70368744177664 : Int) ≤ r_46 ∧ r_46 ≤ (70368744177664 : Int)
        -- k (AV.int IntKind.i64 r_46) [] []
        exact hk _ (by unfold mulI; rw [← h1, ← h5, abs_diff h3 h7 c13, h21]; unfold stopI; omega) (by omega)
      · -- no
        simp at c20 -- r_1 < (0 : Int) ↔ r_7 < (0 : Int)
        intro n49
        intro q49 -- n49 = min n34 (70368744177665 : Int)
        intro ⟨l49, u49⟩ -- (0 : Int) ≤ n49 ∧ n49 ≤ (18446744073709551615 : Int)
        intro n52
        intro q52 -- n52 = IntKind.i64.wrap n49
        rw [IntKind.wrap_i64] at q52
        intro ⟨l52, u52⟩ -- (-9223372036854775808 : Int) ≤ n52 ∧ n52 ≤ (9223372036854775807 : Int)
        refine ⟨by exact ⟨by assumption, by assumption⟩, ?_⟩ -- (-9223372036854775808 : Int) ≤ n52 ∧ n52 ≤ (9223372036854775807 : Int)
        intro r_55
        intro h23 -- r_55 = stopI n52
        intro ⟨a24, b24⟩ -- (-70368744177664 : Int) ≤ r_55 ∧ r_55 ≤ (70368744177664 : Int)
        -- k (AV.int IntKind.i64 r_55) [] []
        exact absurd c20 c13
  · -- no
    simp at c13 -- r_1 < (0 : Int) ↔ r_7 < (0 : Int)
    refine ⟨by omega, ?_⟩ -- (0 : Int) ≤ (48 : Int)
    intro n58
    intro q58 -- n58 = IntKind.u64.wrap (h_13 * (2 : Int) ^ min (Int.toNat (48 : Int)) IntKind.u64.bits)
    rw [show (2 : Int) ^ min (Int.toNat (48 : Int)) IntKind.u64.bits = 281474976710656 from rfl] at q58
    rw [IntKind.wrap_u64] at q58
    intro ⟨l58, u58⟩ -- (0 : Int) ≤ n58 ∧ n58 ≤ (18446744073709551615 : Int)
    refine ⟨by omega, ?_⟩ -- (0 : Int) ≤ (16 : Int)
    intro n61
    intro q61 -- n61 = l_14.fdiv ((2 : Int) ^ min (Int.toNat (16 : Int)) IntKind.u64.bits)
    rw [show (2 : Int) ^ min (Int.toNat (16 : Int)) IntKind.u64.bits = 65536 from rfl, Int.fdiv_eq_ediv_of_nonneg _ (by decide)] at q61
    intro ⟨l61, u61⟩ -- (0 : Int) ≤ n61 ∧ n61 ≤ (18446744073709551615 : Int)
    intro n64
    intro q64 -- n64 = bits BinOp.or IntKind.u64 n58 n61
    have o64 : n64 = n58 + n61 := by (rw [q64]; exact or_sum 48 n58 n61 281474976710656 (by decide) ⟨l58, u58⟩ ⟨l61, by omega⟩ (by decide) (by omega))
    intro ⟨l64, u64⟩ -- (0 : Int) ≤ n64 ∧ n64 ≤ (18446744073709551615 : Int)
    refine brd (fun c25 => ?_) (fun c25 => ?_) -- decide (h_13 ≥ (65536 : Int))
    · -- yes
      refine br_intro (fun c26 => ?_) (fun c26 => ?_) -- !decide (r_1 < (0 : Int)) == decide (r_7 < (0 : Int))
      · -- yes
        simp at c26 -- ¬(r_1 < (0 : Int) ↔ r_7 < (0 : Int))
        -- k (AV.int IntKind.i64 (-70368744177664 : Int)) [] []
        exact absurd c13 c26
      · -- no
        simp at c26 -- r_1 < (0 : Int) ↔ r_7 < (0 : Int)
        -- k (AV.int IntKind.i64 (70368744177664 : Int)) [] []
        exact hk _ (by unfold mulI; rw [← h1, ← h5, abs_same h3 h7 c13]; unfold stopI; omega) (by omega)
    · -- no
      refine br_intro (fun c27 => ?_) (fun c27 => ?_) -- !decide (r_1 < (0 : Int)) == decide (r_7 < (0 : Int))
      · -- yes
        simp at c27 -- ¬(r_1 < (0 : Int) ↔ r_7 < (0 : Int))
        intro n67
        intro q67 -- n67 = min n64 (70368744177665 : Int)
        intro ⟨l67, u67⟩ -- (0 : Int) ≤ n67 ∧ n67 ≤ (18446744073709551615 : Int)
        intro n70
        intro q70 -- n70 = IntKind.i64.wrap n67
        rw [IntKind.wrap_i64] at q70
        intro ⟨l70, u70⟩ -- (-9223372036854775808 : Int) ≤ n70 ∧ n70 ≤ (9223372036854775807 : Int)
        intro n73
        intro q73 -- n73 = IntKind.i64.wrap ((0 : Int) - n70)
        rw [IntKind.wrap_i64] at q73
        intro ⟨l73, u73⟩ -- (-9223372036854775808 : Int) ≤ n73 ∧ n73 ≤ (9223372036854775807 : Int)
        refine ⟨by exact ⟨by assumption, by assumption⟩, ?_⟩ -- (-9223372036854775808 : Int) ≤ n73 ∧ n73 ≤ (9223372036854775807 : Int)
        intro r_76
        intro h28 -- r_76 = stopI n73
        intro ⟨a29, b29⟩ -- (-70368744177664 : Int) ≤ r_76 ∧ r_76 ≤ (70368744177664 : Int)
        -- k (AV.int IntKind.i64 r_76) [] []
        exact absurd c13 c27
      · -- no
        simp at c27 -- r_1 < (0 : Int) ↔ r_7 < (0 : Int)
        intro n79
        intro q79 -- n79 = min n64 (70368744177665 : Int)
        intro ⟨l79, u79⟩ -- (0 : Int) ≤ n79 ∧ n79 ≤ (18446744073709551615 : Int)
        intro n82
        intro q82 -- n82 = IntKind.i64.wrap n79
        rw [IntKind.wrap_i64] at q82
        intro ⟨l82, u82⟩ -- (-9223372036854775808 : Int) ≤ n82 ∧ n82 ≤ (9223372036854775807 : Int)
        refine ⟨by exact ⟨by assumption, by assumption⟩, ?_⟩ -- (-9223372036854775808 : Int) ≤ n82 ∧ n82 ≤ (9223372036854775807 : Int)
        intro r_85
        intro h30 -- r_85 = stopI n82
        intro ⟨a31, b31⟩ -- (-70368744177664 : Int) ≤ r_85 ∧ r_85 ≤ (70368744177664 : Int)
        -- k (AV.int IntKind.i64 r_85) [] []
        exact hk _ (by unfold mulI; rw [← h1, ← h5, abs_same h3 h7 c13, h30]; unfold stopI; omega) (by omega)

theorem fix_Mul_ok : Holds Try.prog 25 (s2 mulI BD) := by
  refine fn_sound (env := mkEnv T1) (tab_ok T1_ok) Try.func25 Try.call25 fun args k h => ?_
  match args, h with
  | [.int .i64 a, .int .i64 b], h => exact ⟨by kernel_rfl, fun _ _ => none, fun _ _ => none, .cast (by kernel_rfl) (fix_Mul_vc a h.1.1 h.1.2 b h.2.1.1 h.2.1.2 k h.2.2)⟩
set_option maxHeartbeats 2000000 in
theorem rMul_vc (a : Int) (a0 : (-9223372036854775808 : Int) ≤ a) (a1 : a ≤ (9223372036854775807 : Int)) (b : Int) (b0 : (-9223372036854775808 : Int) ≤ b) (b1 : b ≤ (9223372036854775807 : Int)) (k : AV → List (Option Blk) → List Blk → Prop) (hk : ∀ (r : Int), r = mulI a b → (-70368744177664 : Int) ≤ r ∧ r ≤ (70368744177664 : Int) → k (AV.int IntKind.i64 r) [] []) :
  (
   ((-9223372036854775808 : Int) ≤ a) ∧
   (a ≤ (9223372036854775807 : Int))) ∧
  ∀ (r_1 : Int),
  (r_1 = stopI a) →
  ((-70368744177664 : Int) ≤ r_1 ∧ r_1 ≤ (70368744177664 : Int)) →
  (
   ((-9223372036854775808 : Int) ≤ b) ∧
   (b ≤ (9223372036854775807 : Int))) ∧
  ∀ (r_4 : Int),
  (r_4 = stopI b) →
  ((-70368744177664 : Int) ≤ r_4 ∧ r_4 ≤ (70368744177664 : Int)) →
  (
   ((-9223372036854775808 : Int) ≤ r_1) ∧
   (r_1 ≤ (9223372036854775807 : Int))) ∧
  ((-9223372036854775808 : Int) < r_1) ∧
  ∀ (r_7 : Int),
  (r_7 = if r_1 < (0 : Int) then -r_1 else r_1) →
  ((0 : Int) ≤ r_7) →
  (
   ((-9223372036854775808 : Int) ≤ r_4) ∧
   (r_4 ≤ (9223372036854775807 : Int))) ∧
  ((-9223372036854775808 : Int) < r_4) ∧
  ∀ (r_10 : Int),
  (r_10 = if r_4 < (0 : Int) then -r_4 else r_4) →
  ((0 : Int) ≤ r_10) →
  ((16777216 : Int) ≠ (0 : Int)) ∧
  ∀ (n13 : Int),
  (n13 = IntKind.i64.wrap (r_7.tdiv (16777216 : Int))) →
  ((-9223372036854775808 : Int) ≤ n13 ∧ n13 ≤ (9223372036854775807 : Int)) →
  ((16777216 : Int) ≠ (0 : Int)) ∧
  ∀ (n16 : Int),
  (n16 = r_7.tmod (16777216 : Int)) →
  ((-9223372036854775808 : Int) ≤ n16 ∧ n16 ≤ (9223372036854775807 : Int)) →
  ((16777216 : Int) ≠ (0 : Int)) ∧
  ∀ (n19 : Int),
  (n19 = IntKind.i64.wrap (r_10.tdiv (16777216 : Int))) →
  ((-9223372036854775808 : Int) ≤ n19 ∧ n19 ≤ (9223372036854775807 : Int)) →
  ((16777216 : Int) ≠ (0 : Int)) ∧
  ∀ (n22 : Int),
  (n22 = r_10.tmod (16777216 : Int)) →
  ((-9223372036854775808 : Int) ≤ n22 ∧ n22 ≤ (9223372036854775807 : Int)) →
  ∀ (n25 : Int),
  (n25 = IntKind.i64.wrap (n16 * n22)) →
  ((-9223372036854775808 : Int) ≤ n25 ∧ n25 ≤ (9223372036854775807 : Int)) →
  ∀ (n28 : Int),
  (n28 = IntKind.i64.wrap (n13 * n22)) →
  ((-9223372036854775808 : Int) ≤ n28 ∧ n28 ≤ (9223372036854775807 : Int)) →
  ∀ (n31 : Int),
  (n31 = IntKind.i64.wrap (n16 * n19)) →
  ((-9223372036854775808 : Int) ≤ n31 ∧ n31 ≤ (9223372036854775807 : Int)) →
  ∀ (n34 : Int),
  (n34 = IntKind.i64.wrap (n28 + n31)) →
  ((-9223372036854775808 : Int) ≤ n34 ∧ n34 ≤ (9223372036854775807 : Int)) →
  ((16777216 : Int) ≠ (0 : Int)) ∧
  ∀ (n37 : Int),
  (n37 = IntKind.i64.wrap (n25.tdiv (16777216 : Int))) →
  ((-9223372036854775808 : Int) ≤ n37 ∧ n37 ≤ (9223372036854775807 : Int)) →
  ∀ (n40 : Int),
  (n40 = IntKind.i64.wrap (n34 + n37)) →
  ((-9223372036854775808 : Int) ≤ n40 ∧ n40 ≤ (9223372036854775807 : Int)) →
  ∀ (n43 : Int),
  (n43 = IntKind.i64.wrap (n13 * n19)) →
  ((-9223372036854775808 : Int) ≤ n43 ∧ n43 ≤ (9223372036854775807 : Int)) →
  ((16777216 : Int) ≠ (0 : Int)) ∧
  ∀ (n46 : Int),
  (n46 = IntKind.i64.wrap (n40.tdiv (16777216 : Int))) →
  ((-9223372036854775808 : Int) ≤ n46 ∧ n46 ≤ (9223372036854775807 : Int)) →
  ∀ (n49 : Int),
  (n49 = IntKind.i64.wrap (n43 + n46)) →
  ((-9223372036854775808 : Int) ≤ n49 ∧ n49 ≤ (9223372036854775807 : Int)) →
  ((16777216 : Int) ≠ (0 : Int)) ∧
  ∀ (n52 : Int),
  (n52 = n40.tmod (16777216 : Int)) →
  ((-9223372036854775808 : Int) ≤ n52 ∧ n52 ≤ (9223372036854775807 : Int)) →
  ((16777216 : Int) ≠ (0 : Int)) ∧
  ∀ (n55 : Int),
  (n55 = n25.tmod (16777216 : Int)) →
  ((-9223372036854775808 : Int) ≤ n55 ∧ n55 ≤ (9223372036854775807 : Int)) →
  br (decide (n49 ≥ (1048576 : Int)))
   (br (!decide (r_1 < (0 : Int)) == decide (r_4 < (0 : Int)))
     ((k (AV.int IntKind.i64 (-70368744177664 : Int)) [] []))
     ((k (AV.int IntKind.i64 (70368744177664 : Int)) [] [])))
   (∀ (n58 : Int),
    (n58 = IntKind.i64.wrap (n49 * (4294967296 : Int))) →
    ((-9223372036854775808 : Int) ≤ n58 ∧ n58 ≤ (9223372036854775807 : Int)) →
    ∀ (n61 : Int),
    (n61 = IntKind.i64.wrap (n52 * (256 : Int))) →
    ((-9223372036854775808 : Int) ≤ n61 ∧ n61 ≤ (9223372036854775807 : Int)) →
    ∀ (n64 : Int),
    (n64 = IntKind.i64.wrap (n58 + n61)) →
    ((-9223372036854775808 : Int) ≤ n64 ∧ n64 ≤ (9223372036854775807 : Int)) →
    ((65536 : Int) ≠ (0 : Int)) ∧
    ∀ (n67 : Int),
    (n67 = IntKind.i64.wrap (n55.tdiv (65536 : Int))) →
    ((-9223372036854775808 : Int) ≤ n67 ∧ n67 ≤ (9223372036854775807 : Int)) →
    ∀ (n70 : Int),
    (n70 = IntKind.i64.wrap (n64 + n67)) →
    ((-9223372036854775808 : Int) ≤ n70 ∧ n70 ≤ (9223372036854775807 : Int)) →
    br (!decide (r_1 < (0 : Int)) == decide (r_4 < (0 : Int)))
     (((65536 : Int) ≠ (0 : Int)) ∧
      ∀ (n73 : Int),
      (n73 = n55.tmod (65536 : Int)) →
      ((-9223372036854775808 : Int) ≤ n73 ∧ n73 ≤ (9223372036854775807 : Int)) →
      br (n73 != (0 : Int))
       (∀ (n76 : Int),
        (n76 = IntKind.i64.wrap (n70 + (1 : Int))) →
        ((-9223372036854775808 : Int) ≤ n76 ∧ n76 ≤ (9223372036854775807 : Int)) →
        ∀ (n79 : Int),
        (n79 = IntKind.i64.wrap ((0 : Int) - n76)) →
        ((-9223372036854775808 : Int) ≤ n79 ∧ n79 ≤ (9223372036854775807 : Int)) →
        (
         ((-9223372036854775808 : Int) ≤ n79) ∧
         (n79 ≤ (9223372036854775807 : Int))) ∧
        ∀ (r_82 : Int),
        (r_82 = stopI n79) →
        ((-70368744177664 : Int) ≤ r_82 ∧ r_82 ≤ (70368744177664 : Int)) →
        (k (AV.int IntKind.i64 r_82) [] []))
       (∀ (n85 : Int),
        (n85 = IntKind.i64.wrap ((0 : Int) - n70)) →
        ((-9223372036854775808 : Int) ≤ n85 ∧ n85 ≤ (9223372036854775807 : Int)) →
        (
         ((-9223372036854775808 : Int) ≤ n85) ∧
         (n85 ≤ (9223372036854775807 : Int))) ∧
        ∀ (r_88 : Int),
        (r_88 = stopI n85) →
        ((-70368744177664 : Int) ≤ r_88 ∧ r_88 ≤ (70368744177664 : Int)) →
        (k (AV.int IntKind.i64 r_88) [] [])))
     ((
       ((-9223372036854775808 : Int) ≤ n70) ∧
       (n70 ≤ (9223372036854775807 : Int))) ∧
      ∀ (r_91 : Int),
      (r_91 = stopI n70) →
      ((-70368744177664 : Int) ≤ r_91 ∧ r_91 ≤ (70368744177664 : Int)) →
      (k (AV.int IntKind.i64 r_91) [] []))) := by
  refine ⟨by exact ⟨by assumption, by assumption⟩, ?_⟩ -- (-9223372036854775808 : Int) ≤ a ∧ a ≤ (9223372036854775807 : Int)
  intro r_1
  intro h1 -- r_1 = stopI a
  intro ⟨a2, b2⟩ -- (-70368744177664 : Int) ≤ r_1 ∧ r_1 ≤ (70368744177664 : Int)
  refine ⟨by exact ⟨by assumption, by assumption⟩, ?_⟩ -- (-9223372036854775808 : Int) ≤ b ∧ b ≤ (9223372036854775807 : Int)
  intro r_4
  intro h3 -- r_4 = stopI b
  intro ⟨a4, b4⟩ -- (-70368744177664 : Int) ≤ r_4 ∧ r_4 ≤ (70368744177664 : Int)
  refine ⟨by omega, ?_⟩ -- (-9223372036854775808 : Int) ≤ r_1 ∧ r_1 ≤ (9223372036854775807 : Int)
  refine ⟨by omega, ?_⟩ -- (-9223372036854775808 : Int) < r_1
  intro r_7
  intro h5 -- r_7 = if r_1 < (0 : Int) then -r_1 else r_1
  intro h6 -- (0 : Int) ≤ r_7
  refine ⟨by omega, ?_⟩ -- (-9223372036854775808 : Int) ≤ r_4 ∧ r_4 ≤ (9223372036854775807 : Int)
  refine ⟨by omega, ?_⟩ -- (-9223372036854775808 : Int) < r_4
  intro r_10
  intro h7 -- r_10 = if r_4 < (0 : Int) then -r_4 else r_4
  intro h8 -- (0 : Int) ≤ r_10
  have p7 : 0 ≤ r_7 ∧ r_7 ≤ 70368744177664 := by exact abs_bd _ ⟨a2, b2⟩ h5
  have p10 : 0 ≤ r_10 ∧ r_10 ≤ 70368744177664 := by exact abs_bd _ ⟨a4, b4⟩ h7
  refine ⟨by omega, ?_⟩ -- (16777216 : Int) ≠ (0 : Int)
  intro n13
  intro q13 -- n13 = IntKind.i64.wrap (r_7.tdiv (16777216 : Int))
  rw [Int.tdiv_eq_ediv_of_nonneg (by omega)] at q13
  rw [IntKind.wrap_i64] at q13
  intro ⟨l13, u13⟩ -- (-9223372036854775808 : Int) ≤ n13 ∧ n13 ≤ (9223372036854775807 : Int)
  refine ⟨by omega, ?_⟩ -- (16777216 : Int) ≠ (0 : Int)
  intro n16
  intro q16 -- n16 = r_7.tmod (16777216 : Int)
  rw [Int.tmod_eq_emod_of_nonneg (by omega)] at q16
  intro ⟨l16, u16⟩ -- (-9223372036854775808 : Int) ≤ n16 ∧ n16 ≤ (9223372036854775807 : Int)
  refine ⟨by omega, ?_⟩ -- (16777216 : Int) ≠ (0 : Int)
  intro n19
  intro q19 -- n19 = IntKind.i64.wrap (r_10.tdiv (16777216 : Int))
  rw [Int.tdiv_eq_ediv_of_nonneg (by omega)] at q19
  rw [IntKind.wrap_i64] at q19
  intro ⟨l19, u19⟩ -- (-9223372036854775808 : Int) ≤ n19 ∧ n19 ≤ (9223372036854775807 : Int)
  refine ⟨by omega, ?_⟩ -- (16777216 : Int) ≠ (0 : Int)
  intro n22
  intro q22 -- n22 = r_10.tmod (16777216 : Int)
  rw [Int.tmod_eq_emod_of_nonneg (by omega)] at q22
  intro ⟨l22, u22⟩ -- (-9223372036854775808 : Int) ≤ n22 ∧ n22 ≤ (9223372036854775807 : Int)
  have z00 : 0 ≤ n16 * n22 ∧ n16 * n22 ≤ 281474943156225 := by exact mul_upto (A := 16777215) (B := 16777215) (by omega) (by omega) (by decide) (by decide)
  have z10 : 0 ≤ n13 * n22 ∧ n13 * n22 ≤ 70368739983360 := by exact mul_upto (A := 4194304) (B := 16777215) (by omega) (by omega) (by decide) (by decide)
  have z01 : 0 ≤ n16 * n19 ∧ n16 * n19 ≤ 70368739983360 := by exact mul_upto (A := 16777215) (B := 4194304) (by omega) (by omega) (by decide) (by decide)
  have z11 : 0 ≤ n13 * n19 ∧ n13 * n19 ≤ 17592186044416 := by exact mul_upto (A := 4194304) (B := 4194304) (by omega) (by omega) (by decide) (by decide)
  have zE : r_7 * r_10 = n13 * n19 * 281474976710656 + (n13 * n22 + n16 * n19) * 16777216 + n16 * n22 := by (have e := digits n13 n16 n19 n22 16777216; rw [show n13 * 16777216 + n16 = r_7 by omega, show n19 * 16777216 + n22 = r_10 by omega] at e; exact e)
  intro n25
  intro q25 -- n25 = IntKind.i64.wrap (n16 * n22)
  rw [IntKind.wrap_i64] at q25
  intro ⟨l25, u25⟩ -- (-9223372036854775808 : Int) ≤ n25 ∧ n25 ≤ (9223372036854775807 : Int)
  intro n28
  intro q28 -- n28 = IntKind.i64.wrap (n13 * n22)
  rw [IntKind.wrap_i64] at q28
  intro ⟨l28, u28⟩ -- (-9223372036854775808 : Int) ≤ n28 ∧ n28 ≤ (9223372036854775807 : Int)
  intro n31
  intro q31 -- n31 = IntKind.i64.wrap (n16 * n19)
  rw [IntKind.wrap_i64] at q31
  intro ⟨l31, u31⟩ -- (-9223372036854775808 : Int) ≤ n31 ∧ n31 ≤ (9223372036854775807 : Int)
  intro n34
  intro q34 -- n34 = IntKind.i64.wrap (n28 + n31)
  rw [IntKind.wrap_i64] at q34
  intro ⟨l34, u34⟩ -- (-9223372036854775808 : Int) ≤ n34 ∧ n34 ≤ (9223372036854775807 : Int)
  refine ⟨by omega, ?_⟩ -- (16777216 : Int) ≠ (0 : Int)
  intro n37
  intro q37 -- n37 = IntKind.i64.wrap (n25.tdiv (16777216 : Int))
  rw [Int.tdiv_eq_ediv_of_nonneg (by omega)] at q37
  rw [IntKind.wrap_i64] at q37
  intro ⟨l37, u37⟩ -- (-9223372036854775808 : Int) ≤ n37 ∧ n37 ≤ (9223372036854775807 : Int)
  intro n40
  intro q40 -- n40 = IntKind.i64.wrap (n34 + n37)
  rw [IntKind.wrap_i64] at q40
  intro ⟨l40, u40⟩ -- (-9223372036854775808 : Int) ≤ n40 ∧ n40 ≤ (9223372036854775807 : Int)
  intro n43
  intro q43 -- n43 = IntKind.i64.wrap (n13 * n19)
  rw [IntKind.wrap_i64] at q43
  intro ⟨l43, u43⟩ -- (-9223372036854775808 : Int) ≤ n43 ∧ n43 ≤ (9223372036854775807 : Int)
  refine ⟨by omega, ?_⟩ -- (16777216 : Int) ≠ (0 : Int)
  intro n46
  intro q46 -- n46 = IntKind.i64.wrap (n40.tdiv (16777216 : Int))
  rw [Int.tdiv_eq_ediv_of_nonneg (by omega)] at q46
  rw [IntKind.wrap_i64] at q46
  intro ⟨l46, u46⟩ -- (-9223372036854775808 : Int) ≤ n46 ∧ n46 ≤ (9223372036854775807 : Int)
  intro n49
  intro q49 -- n49 = IntKind.i64.wrap (n43 + n46)
  rw [IntKind.wrap_i64] at q49
  intro ⟨l49, u49⟩ -- (-9223372036854775808 : Int) ≤ n49 ∧ n49 ≤ (9223372036854775807 : Int)
  refine ⟨by omega, ?_⟩ -- (16777216 : Int) ≠ (0 : Int)
  intro n52
  intro q52 -- n52 = n40.tmod (16777216 : Int)
  rw [Int.tmod_eq_emod_of_nonneg (by omega)] at q52
  intro ⟨l52, u52⟩ -- (-9223372036854775808 : Int) ≤ n52 ∧ n52 ≤ (9223372036854775807 : Int)
  refine ⟨by omega, ?_⟩ -- (16777216 : Int) ≠ (0 : Int)
  intro n55
  intro q55 -- n55 = n25.tmod (16777216 : Int)
  rw [Int.tmod_eq_emod_of_nonneg (by omega)] at q55
  intro ⟨l55, u55⟩ -- (-9223372036854775808 : Int) ≤ n55 ∧ n55 ≤ (9223372036854775807 : Int)
  have hb : (0 ≤ n52 ∧ n52 < 16777216) ∧ (0 ≤ n55 ∧ n55 < 16777216) ∧ (0 ≤ n49 ∧ n49 ≤ 35184372088832) := by omega
  have hz : r_7 * r_10 = n49 * 281474976710656 + n52 * 16777216 + n55 := by (rw [zE]; omega)
  refine brd (fun c9 => ?_) (fun c9 => ?_) -- decide (n49 ≥ (1048576 : Int))
  · -- yes
    refine br_intro (fun c10 => ?_) (fun c10 => ?_) -- !decide (r_1 < (0 : Int)) == decide (r_4 < (0 : Int))
    · -- yes
      simp at c10 -- ¬(r_1 < (0 : Int) ↔ r_4 < (0 : Int))
      -- k (AV.int IntKind.i64 (-70368744177664 : Int)) [] []
      have hq := dig_q hz hb.2.1.1
      clear z00 z10 z01 z11 zE q13 q16 q19 q22 q25 q28 q31 q34 q37 q40 q43 q46 q49 q52 q55 l25 u25 l28 u28 l31 u31 l34 u34 l37 u37 l40 u40 l43 u43 l46 u46
      exact hk _ (by unfold mulI; rw [← h1, ← h3, abs_diff h5 h7 c10]; unfold stopI; omega) (by omega)
    · -- no
      simp at c10 -- r_1 < (0 : Int) ↔ r_4 < (0 : Int)
      -- k (AV.int IntKind.i64 (70368744177664 : Int)) [] []
      have hq := dig_q hz hb.2.1.1
      clear z00 z10 z01 z11 zE q13 q16 q19 q22 q25 q28 q31 q34 q37 q40 q43 q46 q49 q52 q55 l25 u25 l28 u28 l31 u31 l34 u34 l37 u37 l40 u40 l43 u43 l46 u46
      exact hk _ (by unfold mulI; rw [← h1, ← h3, abs_same h5 h7 c10]; unfold stopI; omega) (by omega)
  · -- no
    intro n58
    intro q58 -- n58 = IntKind.i64.wrap (n49 * (4294967296 : Int))
    rw [IntKind.wrap_i64] at q58
    intro ⟨l58, u58⟩ -- (-9223372036854775808 : Int) ≤ n58 ∧ n58 ≤ (9223372036854775807 : Int)
    intro n61
    intro q61 -- n61 = IntKind.i64.wrap (n52 * (256 : Int))
    rw [IntKind.wrap_i64] at q61
    intro ⟨l61, u61⟩ -- (-9223372036854775808 : Int) ≤ n61 ∧ n61 ≤ (9223372036854775807 : Int)
    intro n64
    intro q64 -- n64 = IntKind.i64.wrap (n58 + n61)
    rw [IntKind.wrap_i64] at q64
    intro ⟨l64, u64⟩ -- (-9223372036854775808 : Int) ≤ n64 ∧ n64 ≤ (9223372036854775807 : Int)
    refine ⟨by omega, ?_⟩ -- (65536 : Int) ≠ (0 : Int)
    intro n67
    intro q67 -- n67 = IntKind.i64.wrap (n55.tdiv (65536 : Int))
    rw [Int.tdiv_eq_ediv_of_nonneg (by omega)] at q67
    rw [IntKind.wrap_i64] at q67
    intro ⟨l67, u67⟩ -- (-9223372036854775808 : Int) ≤ n67 ∧ n67 ≤ (9223372036854775807 : Int)
    intro n70
    intro q70 -- n70 = IntKind.i64.wrap (n64 + n67)
    rw [IntKind.wrap_i64] at q70
    intro ⟨l70, u70⟩ -- (-9223372036854775808 : Int) ≤ n70 ∧ n70 ≤ (9223372036854775807 : Int)
    refine br_intro (fun c11 => ?_) (fun c11 => ?_) -- !decide (r_1 < (0 : Int)) == decide (r_4 < (0 : Int))
    · -- yes
      simp at c11 -- ¬(r_1 < (0 : Int) ↔ r_4 < (0 : Int))
      refine ⟨by omega, ?_⟩ -- (65536 : Int) ≠ (0 : Int)
      intro n73
      intro q73 -- n73 = n55.tmod (65536 : Int)
      rw [Int.tmod_eq_emod_of_nonneg (by omega)] at q73
      intro ⟨l73, u73⟩ -- (-9223372036854775808 : Int) ≤ n73 ∧ n73 ≤ (9223372036854775807 : Int)
      refine br_intro (fun c12 => ?_) (fun c12 => ?_) -- n73 != (0 : Int)
      · -- yes
        simp at c12 -- ¬n73 = (0 : Int)
        intro n76
        intro q76 -- n76 = IntKind.i64.wrap (n70 + (1 : Int))
        rw [IntKind.wrap_i64] at q76
        intro ⟨l76, u76⟩ -- (-9223372036854775808 : Int) ≤ n76 ∧ n76 ≤ (9223372036854775807 : Int)
        intro n79
        intro q79 -- n79 = IntKind.i64.wrap ((0 : Int) - n76)
        rw [IntKind.wrap_i64] at q79
        intro ⟨l79, u79⟩ -- (-9223372036854775808 : Int) ≤ n79 ∧ n79 ≤ (9223372036854775807 : Int)
        refine ⟨by exact ⟨by assumption, by assumption⟩, ?_⟩ -- (-9223372036854775808 : Int) ≤ n79 ∧ n79 ≤ (9223372036854775807 : Int)
        intro r_82
        intro h13 -- r_82 = stopI n79
        intro ⟨a14, b14⟩ -- (-70368744177664 : Int) ≤ r_82 ∧ r_82 ≤ (70368744177664 : Int)
        -- k (AV.int IntKind.i64 r_82) [] []
        have hq := dig_q hz hb.2.1.1
        clear z00 z10 z01 z11 zE q13 q16 q19 q22 q25 q28 q31 q34 q37 q40 q43 q46 q49 q52 q55 l25 u25 l28 u28 l31 u31 l34 u34 l37 u37 l40 u40 l43 u43 l46 u46
        exact hk _ (by unfold mulI; rw [← h1, ← h3, abs_diff h5 h7 c11, h13]; unfold stopI; omega) (by omega)
      · -- no
        simp at c12 -- n73 = (0 : Int)
        intro n85
        intro q85 -- n85 = IntKind.i64.wrap ((0 : Int) - n70)
        rw [IntKind.wrap_i64] at q85
        intro ⟨l85, u85⟩ -- (-9223372036854775808 : Int) ≤ n85 ∧ n85 ≤ (9223372036854775807 : Int)
        refine ⟨by exact ⟨by assumption, by assumption⟩, ?_⟩ -- (-9223372036854775808 : Int) ≤ n85 ∧ n85 ≤ (9223372036854775807 : Int)
        intro r_88
        intro h15 -- r_88 = stopI n85
        intro ⟨a16, b16⟩ -- (-70368744177664 : Int) ≤ r_88 ∧ r_88 ≤ (70368744177664 : Int)
        -- k (AV.int IntKind.i64 r_88) [] []
        have hq := dig_q hz hb.2.1.1
        clear z00 z10 z01 z11 zE q13 q16 q19 q22 q25 q28 q31 q34 q37 q40 q43 q46 q49 q52 q55 l25 u25 l28 u28 l31 u31 l34 u34 l37 u37 l40 u40 l43 u43 l46 u46
        exact hk _ (by unfold mulI; rw [← h1, ← h3, abs_diff h5 h7 c11, h15]; unfold stopI; omega) (by omega)
    · -- no
      simp at c11 -- r_1 < (0 : Int) ↔ r_4 < (0 : Int)
      refine ⟨by exact ⟨by assumption, by assumption⟩, ?_⟩ -- (-9223372036854775808 : Int) ≤ n70 ∧ n70 ≤ (9223372036854775807 : Int)
      intro r_91
      intro h17 -- r_91 = stopI n70
      intro ⟨a18, b18⟩ -- (-70368744177664 : Int) ≤ r_91 ∧ r_91 ≤ (70368744177664 : Int)
      -- k (AV.int IntKind.i64 r_91) [] []
      have hq := dig_q hz hb.2.1.1
      clear z00 z10 z01 z11 zE q13 q16 q19 q22 q25 q28 q31 q34 q37 q40 q43 q46 q49 q52 q55 l25 u25 l28 u28 l31 u31 l34 u34 l37 u37 l40 u40 l43 u43 l46 u46
      exact hk _ (by unfold mulI; rw [← h1, ← h3, abs_same h5 h7 c11, h17]; unfold stopI; omega) (by omega)

theorem rMul_ok : Holds Try.prog 26 (s2 mulI BD) := by
  refine fn_sound (env := mkEnv T1) (tab_ok T1_ok) Try.func26 Try.call26 fun args k h => ?_
  match args, h with
  | [.int .i64 a, .int .i64 b], h => exact ⟨by kernel_rfl, fun _ _ => none, fun _ _ => none, .cast (by kernel_rfl) (rMul_vc a h.1.1 h.1.2 b h.2.1.1 h.2.1.2 k h.2.2)⟩
set_option maxHeartbeats 2000000 in
theorem fix_Mix_vc (a : Int) (a0 : (-9223372036854775808 : Int) ≤ a) (a1 : a ≤ (9223372036854775807 : Int)) (b : Int) (b0 : (-9223372036854775808 : Int) ≤ b) (b1 : b ≤ (9223372036854775807 : Int)) (c : Int) (c0 : (-9223372036854775808 : Int) ≤ c) (c1 : c ≤ (9223372036854775807 : Int)) (k : AV → List (Option Blk) → List Blk → Prop) (hk : ∀ (r : Int), r = mixI a b c → (-70368744177664 : Int) ≤ r ∧ r ≤ (70368744177664 : Int) → k (AV.int IntKind.i64 r) [] []) :
  (
   ((-9223372036854775808 : Int) ≤ a) ∧
   (a ≤ (9223372036854775807 : Int))) ∧
  ∀ (r_1 : Int),
  (r_1 = stopI a) →
  ((-70368744177664 : Int) ≤ r_1 ∧ r_1 ≤ (70368744177664 : Int)) →
  (
   ((-9223372036854775808 : Int) ≤ b) ∧
   (b ≤ (9223372036854775807 : Int))) ∧
  ∀ (r_4 : Int),
  (r_4 = stopI b) →
  ((-70368744177664 : Int) ≤ r_4 ∧ r_4 ≤ (70368744177664 : Int)) →
  (
   ((-9223372036854775808 : Int) ≤ c) ∧
   (c ≤ (9223372036854775807 : Int))) ∧
  (
   ((-9223372036854775808 : Int) ≤ (0 : Int)) ∧
   ((0 : Int) ≤ (9223372036854775807 : Int))) ∧
  (
   ((-9223372036854775808 : Int) ≤ (65536 : Int)) ∧
   ((65536 : Int) ≤ (9223372036854775807 : Int))) ∧
  ∀ (r_7 : Int),
  (r_7 = clampI c (0 : Int) (65536 : Int)) →
  (True) →
  ∀ (n10 : Int),
  (n10 = IntKind.i64.wrap (r_4 - r_1)) →
  ((-9223372036854775808 : Int) ≤ n10 ∧ n10 ≤ (9223372036854775807 : Int)) →
  (
   ((-9223372036854775808 : Int) ≤ n10) ∧
   (n10 ≤ (9223372036854775807 : Int))) ∧
  ∀ (u_13 : Int),
  (u_13 = if n10 < (0 : Int) then -n10 else n10) →
  ((0 : Int) ≤ u_13 ∧ u_13 ≤ (9223372036854775808 : Int)) →
  ∀ (n16 : Int),
  (n16 = IntKind.u64.wrap r_7) →
  ((0 : Int) ≤ n16 ∧ n16 ≤ (18446744073709551615 : Int)) →
  (
   ((0 : Int) ≤ u_13) ∧
   (u_13 ≤ (18446744073709551615 : Int))) ∧
  (
   ((0 : Int) ≤ n16) ∧
   (n16 ≤ (18446744073709551615 : Int))) ∧
  ∀ (h_19 : Int),
  ∀ (l_20 : Int),
  (h_19 = u_13 * n16 / (18446744073709551616 : Int)) →
  (l_20 = u_13 * n16 % (18446744073709551616 : Int)) →
  ((0 : Int) ≤ h_19 ∧ h_19 ≤ (18446744073709551615 : Int)) →
  ((0 : Int) ≤ l_20 ∧ l_20 ≤ (18446744073709551615 : Int)) →
  br (decide (n10 < (0 : Int)))
   ((
     ((0 : Int) ≤ l_20) ∧
     (l_20 ≤ (18446744073709551615 : Int))) ∧
    (
     ((0 : Int) ≤ (65535 : Int)) ∧
     ((65535 : Int) ≤ (18446744073709551615 : Int))) ∧
    (
     ((0 : Int) ≤ (0 : Int)) ∧
     ((0 : Int) ≤ (1 : Int))) ∧
    ∀ (s_25 : Int),
    ∀ (d_26 : Int),
    (s_25 = (l_20 + (65535 : Int) + (0 : Int)) % (18446744073709551616 : Int)) →
    (d_26 = (l_20 + (65535 : Int) + (0 : Int)) / (18446744073709551616 : Int)) →
    ((0 : Int) ≤ s_25 ∧ s_25 ≤ (18446744073709551615 : Int)) →
    ((0 : Int) ≤ d_26 ∧ d_26 ≤ (1 : Int)) →
    ∀ (n31 : Int),
    (n31 = IntKind.u64.wrap (h_19 + d_26)) →
    ((0 : Int) ≤ n31 ∧ n31 ≤ (18446744073709551615 : Int)) →
    ((0 : Int) ≤ (48 : Int)) ∧
    ∀ (n34 : Int),
    (n34 = IntKind.u64.wrap (n31 * (2 : Int) ^ min (Int.toNat (48 : Int)) IntKind.u64.bits)) →
    ((0 : Int) ≤ n34 ∧ n34 ≤ (18446744073709551615 : Int)) →
    ((0 : Int) ≤ (16 : Int)) ∧
    ∀ (n37 : Int),
    (n37 = s_25.fdiv ((2 : Int) ^ min (Int.toNat (16 : Int)) IntKind.u64.bits)) →
    ((0 : Int) ≤ n37 ∧ n37 ≤ (18446744073709551615 : Int)) →
    ∀ (n40 : Int),
    (n40 = bits BinOp.or IntKind.u64 n34 n37) →
    ((0 : Int) ≤ n40 ∧ n40 ≤ (18446744073709551615 : Int)) →
    ∀ (n43 : Int),
    (n43 = IntKind.i64.wrap n40) →
    ((-9223372036854775808 : Int) ≤ n43 ∧ n43 ≤ (9223372036854775807 : Int)) →
    ∀ (n46 : Int),
    (n46 = IntKind.i64.wrap (r_1 - n43)) →
    ((-9223372036854775808 : Int) ≤ n46 ∧ n46 ≤ (9223372036854775807 : Int)) →
    (k (AV.int IntKind.i64 n46) [] []))
   (((0 : Int) ≤ (48 : Int)) ∧
    ∀ (n49 : Int),
    (n49 = IntKind.u64.wrap (h_19 * (2 : Int) ^ min (Int.toNat (48 : Int)) IntKind.u64.bits)) →
    ((0 : Int) ≤ n49 ∧ n49 ≤ (18446744073709551615 : Int)) →
    ((0 : Int) ≤ (16 : Int)) ∧
    ∀ (n52 : Int),
    (n52 = l_20.fdiv ((2 : Int) ^ min (Int.toNat (16 : Int)) IntKind.u64.bits)) →
    ((0 : Int) ≤ n52 ∧ n52 ≤ (18446744073709551615 : Int)) →
    ∀ (n55 : Int),
    (n55 = bits BinOp.or IntKind.u64 n49 n52) →
    ((0 : Int) ≤ n55 ∧ n55 ≤ (18446744073709551615 : Int)) →
    ∀ (n58 : Int),
    (n58 = IntKind.i64.wrap n55) →
    ((-9223372036854775808 : Int) ≤ n58 ∧ n58 ≤ (9223372036854775807 : Int)) →
    ∀ (n61 : Int),
    (n61 = IntKind.i64.wrap (r_1 + n58)) →
    ((-9223372036854775808 : Int) ≤ n61 ∧ n61 ≤ (9223372036854775807 : Int)) →
    (k (AV.int IntKind.i64 n61) [] [])) := by
  refine ⟨by exact ⟨by assumption, by assumption⟩, ?_⟩ -- (-9223372036854775808 : Int) ≤ a ∧ a ≤ (9223372036854775807 : Int)
  intro r_1
  intro h1 -- r_1 = stopI a
  intro ⟨a2, b2⟩ -- (-70368744177664 : Int) ≤ r_1 ∧ r_1 ≤ (70368744177664 : Int)
  refine ⟨by exact ⟨by assumption, by assumption⟩, ?_⟩ -- (-9223372036854775808 : Int) ≤ b ∧ b ≤ (9223372036854775807 : Int)
  intro r_4
  intro h3 -- r_4 = stopI b
  intro ⟨a4, b4⟩ -- (-70368744177664 : Int) ≤ r_4 ∧ r_4 ≤ (70368744177664 : Int)
  refine ⟨by exact ⟨by assumption, by assumption⟩, ?_⟩ -- (-9223372036854775808 : Int) ≤ c ∧ c ≤ (9223372036854775807 : Int)
  refine ⟨by omega, ?_⟩ -- (-9223372036854775808 : Int) ≤ (0 : Int) ∧ (0 : Int) ≤ (9223372036854775807 : Int)
  refine ⟨by omega, ?_⟩ -- (-9223372036854775808 : Int) ≤ (65536 : Int) ∧ (65536 : Int) ≤ (9223372036854775807 : Int)
  intro r_7
  intro h5 -- r_7 = clampI c (0 : Int) (65536 : Int)
  intro h6 -- True
  have p7 : 0 ≤ r_7 ∧ r_7 ≤ 65536 := by (rw [h5]; exact clamp_bd c)
  intro n10
  intro q10 -- n10 = IntKind.i64.wrap (r_4 - r_1)
  rw [IntKind.wrap_i64] at q10
  intro ⟨l10, u10⟩ -- (-9223372036854775808 : Int) ≤ n10 ∧ n10 ≤ (9223372036854775807 : Int)
  refine ⟨by exact ⟨by assumption, by assumption⟩, ?_⟩ -- (-9223372036854775808 : Int) ≤ n10 ∧ n10 ≤ (9223372036854775807 : Int)
  intro u_13
  intro h7 -- u_13 = if n10 < (0 : Int) then -n10 else n10
  intro ⟨a8, b8⟩ -- (0 : Int) ≤ u_13 ∧ u_13 ≤ (9223372036854775808 : Int)
  intro n16
  intro q16 -- n16 = IntKind.u64.wrap r_7
  rw [IntKind.wrap_u64] at q16
  intro ⟨l16, u16⟩ -- (0 : Int) ≤ n16 ∧ n16 ≤ (18446744073709551615 : Int)
  refine ⟨by omega, ?_⟩ -- (0 : Int) ≤ u_13 ∧ u_13 ≤ (18446744073709551615 : Int)
  refine ⟨by exact ⟨by assumption, by assumption⟩, ?_⟩ -- (0 : Int) ≤ n16 ∧ n16 ≤ (18446744073709551615 : Int)
  intro h_19
  intro l_20
  intro h9 -- h_19 = u_13 * n16 / (18446744073709551616 : Int)
  intro h10 -- l_20 = u_13 * n16 % (18446744073709551616 : Int)
  intro ⟨a11, b11⟩ -- (0 : Int) ≤ h_19 ∧ h_19 ≤ (18446744073709551615 : Int)
  intro ⟨a12, b12⟩ -- (0 : Int) ≤ l_20 ∧ l_20 ≤ (18446744073709551615 : Int)
  have p13 : 0 ≤ u_13 ∧ u_13 ≤ 140737488355328 := by exact abs_bd _ ⟨by omega, by omega⟩ h7
  have z : 0 ≤ u_13 * n16 ∧ u_13 * n16 ≤ 9223372036854775808 := by exact mul_upto p13 (B := 65536) ⟨by omega, by omega⟩ (by decide) (by decide)
  refine brd (fun c13 => ?_) (fun c13 => ?_) -- decide (n10 < (0 : Int))
  · -- yes
    refine ⟨by exact ⟨by assumption, by assumption⟩, ?_⟩ -- (0 : Int) ≤ l_20 ∧ l_20 ≤ (18446744073709551615 : Int)
    refine ⟨by omega, ?_⟩ -- (0 : Int) ≤ (65535 : Int) ∧ (65535 : Int) ≤ (18446744073709551615 : Int)
    refine ⟨by omega, ?_⟩ -- (0 : Int) ≤ (0 : Int) ∧ (0 : Int) ≤ (1 : Int)
    intro s_25
    intro d_26
    intro h14 -- s_25 = (l_20 + (65535 : Int) + (0 : Int)) % (18446744073709551616 : Int)
    intro h15 -- d_26 = (l_20 + (65535 : Int) + (0 : Int)) / (18446744073709551616 : Int)
    intro ⟨a16, b16⟩ -- (0 : Int) ≤ s_25 ∧ s_25 ≤ (18446744073709551615 : Int)
    intro ⟨a17, b17⟩ -- (0 : Int) ≤ d_26 ∧ d_26 ≤ (1 : Int)
    intro n31
    intro q31 -- n31 = IntKind.u64.wrap (h_19 + d_26)
    rw [IntKind.wrap_u64] at q31
    intro ⟨l31, u31⟩ -- (0 : Int) ≤ n31 ∧ n31 ≤ (18446744073709551615 : Int)
    refine ⟨by omega, ?_⟩ -- (0 : Int) ≤ (48 : Int)
    intro n34
    intro q34 -- n34 = IntKind.u64.wrap (n31 * (2 : Int) ^ min (Int.toNat (48 : Int)) IntKind.u64.bits)
    rw [show (2 : Int) ^ min (Int.toNat (48 : Int)) IntKind.u64.bits = 281474976710656 from rfl] at q34
    rw [IntKind.wrap_u64] at q34
    intro ⟨l34, u34⟩ -- (0 : Int) ≤ n34 ∧ n34 ≤ (18446744073709551615 : Int)
    refine ⟨by omega, ?_⟩ -- (0 : Int) ≤ (16 : Int)
    intro n37
    intro q37 -- n37 = s_25.fdiv ((2 : Int) ^ min (Int.toNat (16 : Int)) IntKind.u64.bits)
    rw [show (2 : Int) ^ min (Int.toNat (16 : Int)) IntKind.u64.bits = 65536 from rfl, Int.fdiv_eq_ediv_of_nonneg _ (by decide)] at q37
    intro ⟨l37, u37⟩ -- (0 : Int) ≤ n37 ∧ n37 ≤ (18446744073709551615 : Int)
    intro n40
    intro q40 -- n40 = bits BinOp.or IntKind.u64 n34 n37
    have o40 : n40 = n34 + n37 := by (rw [q40]; exact or_sum 48 n34 n37 281474976710656 (by decide) ⟨l34, u34⟩ ⟨l37, by omega⟩ (by decide) (by omega))
    intro ⟨l40, u40⟩ -- (0 : Int) ≤ n40 ∧ n40 ≤ (18446744073709551615 : Int)
    intro n43
    intro q43 -- n43 = IntKind.i64.wrap n40
    rw [IntKind.wrap_i64] at q43
    intro ⟨l43, u43⟩ -- (-9223372036854775808 : Int) ≤ n43 ∧ n43 ≤ (9223372036854775807 : Int)
    intro n46
    intro q46 -- n46 = IntKind.i64.wrap (r_1 - n43)
    rw [IntKind.wrap_i64] at q46
    intro ⟨l46, u46⟩ -- (-9223372036854775808 : Int) ≤ n46 ∧ n46 ≤ (9223372036854775807 : Int)
    -- k (AV.int IntKind.i64 n46) [] []
    have e10 : r_4 - r_1 = n10 := by omega
    have e16 : r_7 = n16 := by omega
    have ez := (abs_part (p := n16) h7).1 c13
    have e : n46 = mixI a b c := by unfold mixI; rw [← h1, ← h3, ← h5, e10, e16, ez]; omega
    exact hk _ e (by rw [e]; exact mix_bd a b c)
  · -- no
    refine ⟨by omega, ?_⟩ -- (0 : Int) ≤ (48 : Int)
    intro n49
    intro q49 -- n49 = IntKind.u64.wrap (h_19 * (2 : Int) ^ min (Int.toNat (48 : Int)) IntKind.u64.bits)
    rw [show (2 : Int) ^ min (Int.toNat (48 : Int)) IntKind.u64.bits = 281474976710656 from rfl] at q49
    rw [IntKind.wrap_u64] at q49
    intro ⟨l49, u49⟩ -- (0 : Int) ≤ n49 ∧ n49 ≤ (18446744073709551615 : Int)
    refine ⟨by omega, ?_⟩ -- (0 : Int) ≤ (16 : Int)
    intro n52
    intro q52 -- n52 = l_20.fdiv ((2 : Int) ^ min (Int.toNat (16 : Int)) IntKind.u64.bits)
    rw [show (2 : Int) ^ min (Int.toNat (16 : Int)) IntKind.u64.bits = 65536 from rfl, Int.fdiv_eq_ediv_of_nonneg _ (by decide)] at q52
    intro ⟨l52, u52⟩ -- (0 : Int) ≤ n52 ∧ n52 ≤ (18446744073709551615 : Int)
    intro n55
    intro q55 -- n55 = bits BinOp.or IntKind.u64 n49 n52
    have o55 : n55 = n49 + n52 := by (rw [q55]; exact or_sum 48 n49 n52 281474976710656 (by decide) ⟨l49, u49⟩ ⟨l52, by omega⟩ (by decide) (by omega))
    intro ⟨l55, u55⟩ -- (0 : Int) ≤ n55 ∧ n55 ≤ (18446744073709551615 : Int)
    intro n58
    intro q58 -- n58 = IntKind.i64.wrap n55
    rw [IntKind.wrap_i64] at q58
    intro ⟨l58, u58⟩ -- (-9223372036854775808 : Int) ≤ n58 ∧ n58 ≤ (9223372036854775807 : Int)
    intro n61
    intro q61 -- n61 = IntKind.i64.wrap (r_1 + n58)
    rw [IntKind.wrap_i64] at q61
    intro ⟨l61, u61⟩ -- (-9223372036854775808 : Int) ≤ n61 ∧ n61 ≤ (9223372036854775807 : Int)
    -- k (AV.int IntKind.i64 n61) [] []
    have e10 : r_4 - r_1 = n10 := by omega
    have e16 : r_7 = n16 := by omega
    have ez := (abs_part (p := n16) h7).2 c13
    have e : n61 = mixI a b c := by unfold mixI; rw [← h1, ← h3, ← h5, e10, e16, ez]; omega
    exact hk _ e (by rw [e]; exact mix_bd a b c)

theorem fix_Mix_ok : Holds Try.prog 17 (s3 mixI BD) := by
  refine fn_sound (env := mkEnv T1) (tab_ok T1_ok) Try.func17 Try.call17 fun args k h => ?_
  match args, h with
  | [.int .i64 a, .int .i64 b, .int .i64 c], h => exact ⟨by kernel_rfl, fun _ _ => none, fun _ _ => none, .cast (by kernel_rfl) (fix_Mix_vc a h.1.1 h.1.2 b h.2.1.1 h.2.1.2 c h.2.2.1.1 h.2.2.1.2 k h.2.2.2)⟩
set_option maxHeartbeats 2000000 in
theorem rMix_vc (a : Int) (a0 : (-9223372036854775808 : Int) ≤ a) (a1 : a ≤ (9223372036854775807 : Int)) (b : Int) (b0 : (-9223372036854775808 : Int) ≤ b) (b1 : b ≤ (9223372036854775807 : Int)) (c : Int) (c0 : (-9223372036854775808 : Int) ≤ c) (c1 : c ≤ (9223372036854775807 : Int)) (k : AV → List (Option Blk) → List Blk → Prop) (hk : ∀ (r : Int), r = mixI a b c → (-70368744177664 : Int) ≤ r ∧ r ≤ (70368744177664 : Int) → k (AV.int IntKind.i64 r) [] []) :
  (
   ((-9223372036854775808 : Int) ≤ a) ∧
   (a ≤ (9223372036854775807 : Int))) ∧
  ∀ (r_1 : Int),
  (r_1 = stopI a) →
  ((-70368744177664 : Int) ≤ r_1 ∧ r_1 ≤ (70368744177664 : Int)) →
  (
   ((-9223372036854775808 : Int) ≤ b) ∧
   (b ≤ (9223372036854775807 : Int))) ∧
  ∀ (r_4 : Int),
  (r_4 = stopI b) →
  ((-70368744177664 : Int) ≤ r_4 ∧ r_4 ≤ (70368744177664 : Int)) →
  (
   ((-9223372036854775808 : Int) ≤ c) ∧
   (c ≤ (9223372036854775807 : Int))) ∧
  (
   ((-9223372036854775808 : Int) ≤ (0 : Int)) ∧
   ((0 : Int) ≤ (9223372036854775807 : Int))) ∧
  (
   ((-9223372036854775808 : Int) ≤ (65536 : Int)) ∧
   ((65536 : Int) ≤ (9223372036854775807 : Int))) ∧
  ∀ (r_7 : Int),
  (r_7 = clampI c (0 : Int) (65536 : Int)) →
  (True) →
  ∀ (n10 : Int),
  (n10 = IntKind.i64.wrap (r_4 - r_1)) →
  ((-9223372036854775808 : Int) ≤ n10 ∧ n10 ≤ (9223372036854775807 : Int)) →
  (
   ((-9223372036854775808 : Int) ≤ n10) ∧
   (n10 ≤ (9223372036854775807 : Int))) ∧
  (
   ((-9223372036854775808 : Int) ≤ (65536 : Int)) ∧
   ((65536 : Int) ≤ (9223372036854775807 : Int))) ∧
  ((0 : Int) < (65536 : Int)) ∧
  ∀ (r_13 : Int),
  (r_13 = n10 / (65536 : Int)) →
  (True) →
  ∀ (n16 : Int),
  (n16 = IntKind.i64.wrap (r_13 * (65536 : Int))) →
  ((-9223372036854775808 : Int) ≤ n16 ∧ n16 ≤ (9223372036854775807 : Int)) →
  ∀ (n19 : Int),
  (n19 = IntKind.i64.wrap (n10 - n16)) →
  ((-9223372036854775808 : Int) ≤ n19 ∧ n19 ≤ (9223372036854775807 : Int)) →
  ∀ (n22 : Int),
  (n22 = IntKind.i64.wrap (r_13 * r_7)) →
  ((-9223372036854775808 : Int) ≤ n22 ∧ n22 ≤ (9223372036854775807 : Int)) →
  ∀ (n25 : Int),
  (n25 = IntKind.i64.wrap (r_1 + n22)) →
  ((-9223372036854775808 : Int) ≤ n25 ∧ n25 ≤ (9223372036854775807 : Int)) →
  ∀ (n28 : Int),
  (n28 = IntKind.i64.wrap (n19 * r_7)) →
  ((-9223372036854775808 : Int) ≤ n28 ∧ n28 ≤ (9223372036854775807 : Int)) →
  (
   ((-9223372036854775808 : Int) ≤ n28) ∧
   (n28 ≤ (9223372036854775807 : Int))) ∧
  (
   ((-9223372036854775808 : Int) ≤ (65536 : Int)) ∧
   ((65536 : Int) ≤ (9223372036854775807 : Int))) ∧
  ((0 : Int) < (65536 : Int)) ∧
  ∀ (r_31 : Int),
  (r_31 = n28 / (65536 : Int)) →
  (True) →
  ∀ (n34 : Int),
  (n34 = IntKind.i64.wrap (n25 + r_31)) →
  ((-9223372036854775808 : Int) ≤ n34 ∧ n34 ≤ (9223372036854775807 : Int)) →
  (k (AV.int IntKind.i64 n34) [] []) := by
  refine ⟨by exact ⟨by assumption, by assumption⟩, ?_⟩ -- (-9223372036854775808 : Int) ≤ a ∧ a ≤ (9223372036854775807 : Int)
  intro r_1
  intro h1 -- r_1 = stopI a
  intro ⟨a2, b2⟩ -- (-70368744177664 : Int) ≤ r_1 ∧ r_1 ≤ (70368744177664 : Int)
  refine ⟨by exact ⟨by assumption, by assumption⟩, ?_⟩ -- (-9223372036854775808 : Int) ≤ b ∧ b ≤ (9223372036854775807 : Int)
  intro r_4
  intro h3 -- r_4 = stopI b
  intro ⟨a4, b4⟩ -- (-70368744177664 : Int) ≤ r_4 ∧ r_4 ≤ (70368744177664 : Int)
  refine ⟨by exact ⟨by assumption, by assumption⟩, ?_⟩ -- (-9223372036854775808 : Int) ≤ c ∧ c ≤ (9223372036854775807 : Int)
  refine ⟨by omega, ?_⟩ -- (-9223372036854775808 : Int) ≤ (0 : Int) ∧ (0 : Int) ≤ (9223372036854775807 : Int)
  refine ⟨by omega, ?_⟩ -- (-9223372036854775808 : Int) ≤ (65536 : Int) ∧ (65536 : Int) ≤ (9223372036854775807 : Int)
  intro r_7
  intro h5 -- r_7 = clampI c (0 : Int) (65536 : Int)
  intro h6 -- True
  have p7 : 0 ≤ r_7 ∧ r_7 ≤ 65536 := by (rw [h5]; exact clamp_bd c)
  intro n10
  intro q10 -- n10 = IntKind.i64.wrap (r_4 - r_1)
  rw [IntKind.wrap_i64] at q10
  intro ⟨l10, u10⟩ -- (-9223372036854775808 : Int) ≤ n10 ∧ n10 ≤ (9223372036854775807 : Int)
  refine ⟨by exact ⟨by assumption, by assumption⟩, ?_⟩ -- (-9223372036854775808 : Int) ≤ n10 ∧ n10 ≤ (9223372036854775807 : Int)
  refine ⟨by omega, ?_⟩ -- (-9223372036854775808 : Int) ≤ (65536 : Int) ∧ (65536 : Int) ≤ (9223372036854775807 : Int)
  refine ⟨by omega, ?_⟩ -- (0 : Int) < (65536 : Int)
  intro r_13
  intro h7 -- r_13 = n10 / (65536 : Int)
  intro h8 -- True
  have p13 : -2147483648 ≤ r_13 ∧ r_13 ≤ 2147483648 := by omega
  intro n16
  intro q16 -- n16 = IntKind.i64.wrap (r_13 * (65536 : Int))
  rw [IntKind.wrap_i64] at q16
  intro ⟨l16, u16⟩ -- (-9223372036854775808 : Int) ≤ n16 ∧ n16 ≤ (9223372036854775807 : Int)
  intro n19
  intro q19 -- n19 = IntKind.i64.wrap (n10 - n16)
  rw [IntKind.wrap_i64] at q19
  intro ⟨l19, u19⟩ -- (-9223372036854775808 : Int) ≤ n19 ∧ n19 ≤ (9223372036854775807 : Int)
  have zA : -140737488355328 ≤ r_13 * r_7 ∧ r_13 * r_7 ≤ 140737488355328 := by exact mul_sbd p13 p7 (by decide) (by decide)
  have zB : 0 ≤ n19 * r_7 ∧ n19 * r_7 ≤ 4294901760 := by exact mul_upto (A := 65535) ⟨by omega, by omega⟩ p7 (by decide) (by decide)
  have zE : n10 * r_7 = r_13 * r_7 * 65536 + n19 * r_7 := by exact part_split (by omega)
  intro n22
  intro q22 -- n22 = IntKind.i64.wrap (r_13 * r_7)
  rw [IntKind.wrap_i64] at q22
  intro ⟨l22, u22⟩ -- (-9223372036854775808 : Int) ≤ n22 ∧ n22 ≤ (9223372036854775807 : Int)
  intro n25
  intro q25 -- n25 = IntKind.i64.wrap (r_1 + n22)
  rw [IntKind.wrap_i64] at q25
  intro ⟨l25, u25⟩ -- (-9223372036854775808 : Int) ≤ n25 ∧ n25 ≤ (9223372036854775807 : Int)
  intro n28
  intro q28 -- n28 = IntKind.i64.wrap (n19 * r_7)
  rw [IntKind.wrap_i64] at q28
  intro ⟨l28, u28⟩ -- (-9223372036854775808 : Int) ≤ n28 ∧ n28 ≤ (9223372036854775807 : Int)
  refine ⟨by exact ⟨by assumption, by assumption⟩, ?_⟩ -- (-9223372036854775808 : Int) ≤ n28 ∧ n28 ≤ (9223372036854775807 : Int)
  refine ⟨by omega, ?_⟩ -- (-9223372036854775808 : Int) ≤ (65536 : Int) ∧ (65536 : Int) ≤ (9223372036854775807 : Int)
  refine ⟨by omega, ?_⟩ -- (0 : Int) < (65536 : Int)
  intro r_31
  intro h9 -- r_31 = n28 / (65536 : Int)
  intro h10 -- True
  intro n34
  intro q34 -- n34 = IntKind.i64.wrap (n25 + r_31)
  rw [IntKind.wrap_i64] at q34
  intro ⟨l34, u34⟩ -- (-9223372036854775808 : Int) ≤ n34 ∧ n34 ≤ (9223372036854775807 : Int)
  -- k (AV.int IntKind.i64 n34) [] []
  have e10 : r_4 - r_1 = n10 := by omega
  have e : n34 = mixI a b c := by unfold mixI; rw [← h1, ← h3, ← h5, e10, zE]; omega
  exact hk _ e (by rw [e]; exact mix_bd a b c)

theorem rMix_ok : Holds Try.prog 18 (s3 mixI BD) := by
  refine fn_sound (env := mkEnv T1) (tab_ok T1_ok) Try.func18 Try.call18 fun args k h => ?_
  match args, h with
  | [.int .i64 a, .int .i64 b, .int .i64 c], h => exact ⟨by kernel_rfl, fun _ _ => none, fun _ _ => none, .cast (by kernel_rfl) (rMix_vc a h.1.1 h.1.2 b h.2.1.1 h.2.1.2 c h.2.2.1.1 h.2.2.1.2 k h.2.2.2)⟩
end Go.Proofs.Ytlbnmnaamphclaa

