import Derived.Test.YtmlfpijallccgaaFxB
namespace Go.Proofs.Ytmlfpijallccgaa
open Go Go.Eng Go.Fx Go.Proofs
set_option linter.unusedVariables false
set_option maxHeartbeats 2000000 in
theorem fix_stop_vc (a : Int) (a0 : (-9223372036854775808 : Int) ≤ a) (a1 : a ≤ (9223372036854775807 : Int)) (k : AV → List (Option Blk) → List Blk → Prop) (hk : ∀ (r : Int), r = stopI a → (-70368744177664 : Int) ≤ r ∧ r ≤ (70368744177664 : Int) → k (AV.int IntKind.i64 r) [] []) :
  ∀ (n1 : Int),
  (n1 = max a (-70368744177664 : Int)) →
  ((-9223372036854775808 : Int) ≤ n1 ∧ n1 ≤ (9223372036854775807 : Int)) →
  ∀ (n4 : Int),
  (n4 = min n1 (70368744177664 : Int)) →
  ((-9223372036854775808 : Int) ≤ n4 ∧ n4 ≤ (9223372036854775807 : Int)) →
  (k (AV.int IntKind.i64 n4) [] []) := by
  intro n1
  intro q1 -- n1 = max a (-70368744177664 : Int)
  intro ⟨l1, u1⟩ -- (-9223372036854775808 : Int) ≤ n1 ∧ n1 ≤ (9223372036854775807 : Int)
  intro n4
  intro q4 -- n4 = min n1 (70368744177664 : Int)
  intro ⟨l4, u4⟩ -- (-9223372036854775808 : Int) ≤ n4 ∧ n4 ≤ (9223372036854775807 : Int)
  exact by exact hk _ (by unfold stopI; omega) (by omega) -- k (AV.int IntKind.i64 n4) [] []

theorem fix_stop_ok : Holds Try.prog 25 (s1 stopI BD) := by
  refine fn_sound (env := mkEnv T0) (tab_ok T0_ok) Try.func25 Try.call25 fun args k h => ?_
  match args, h with
  | [.int .i64 a], h => exact ⟨by kernel_rfl, fun _ _ => none, fun _ _ => none, .cast (by kernel_rfl) (fix_stop_vc a h.1.1 h.1.2 k h.2)⟩
set_option maxHeartbeats 2000000 in
theorem fix_size_vc (a : Int) (a0 : (-9223372036854775808 : Int) ≤ a) (a1 : a ≤ (9223372036854775807 : Int)) (k : AV → List (Option Blk) → List Blk → Prop) (hk : ∀ (u : Int), (u = if a < (0 : Int) then -a else a) → (0 : Int) ≤ u ∧ u ≤ (9223372036854775808 : Int) → k (AV.tup [AV.int IntKind.u64 u, AV.bool (decide (a < (0 : Int)))]) [] []) :
  br (decide (a < (0 : Int)))
   (∀ (n1 : Int),
    (n1 = IntKind.i64.wrap ((0 : Int) - a)) →
    ((-9223372036854775808 : Int) ≤ n1 ∧ n1 ≤ (9223372036854775807 : Int)) →
    ∀ (n4 : Int),
    (n4 = IntKind.u64.wrap n1) →
    ((0 : Int) ≤ n4 ∧ n4 ≤ (18446744073709551615 : Int)) →
    (k (AV.tup [AV.int IntKind.u64 n4, AV.bool true]) [] []))
   (∀ (n7 : Int),
    (n7 = IntKind.u64.wrap a) →
    ((0 : Int) ≤ n7 ∧ n7 ≤ (18446744073709551615 : Int)) →
    (k (AV.tup [AV.int IntKind.u64 n7, AV.bool false]) [] [])) := by
  refine brd (fun c1 => ?_) (fun c1 => ?_) -- decide (a < (0 : Int))
  · -- yes
    intro n1
    intro q1 -- n1 = IntKind.i64.wrap ((0 : Int) - a)
    rw [IntKind.wrap_i64] at q1
    intro ⟨l1, u1⟩ -- (-9223372036854775808 : Int) ≤ n1 ∧ n1 ≤ (9223372036854775807 : Int)
    intro n4
    intro q4 -- n4 = IntKind.u64.wrap n1
    rw [IntKind.wrap_u64] at q4
    intro ⟨l4, u4⟩ -- (0 : Int) ≤ n4 ∧ n4 ≤ (18446744073709551615 : Int)
    -- k (AV.tup [AV.int IntKind.u64 n4, AV.bool true]) [] []
    rw [show true = decide (a < 0) from (decide_eq_true c1).symm]; exact hk _ (by omega) (by omega)
  · -- no
    intro n7
    intro q7 -- n7 = IntKind.u64.wrap a
    rw [IntKind.wrap_u64] at q7
    intro ⟨l7, u7⟩ -- (0 : Int) ≤ n7 ∧ n7 ≤ (18446744073709551615 : Int)
    -- k (AV.tup [AV.int IntKind.u64 n7, AV.bool false]) [] []
    rw [show false = decide (a < 0) from (decide_eq_false c1).symm]; exact hk _ (by omega) (by omega)

theorem fix_size_ok : Holds Try.prog 27 sizeS := by
  refine fn_sound (env := mkEnv T0) (tab_ok T0_ok) Try.func27 Try.call27 fun args k h => ?_
  match args, h with
  | [.int .i64 a], h => exact ⟨by kernel_rfl, fun _ _ => none, fun _ _ => none, .cast (by kernel_rfl) (fix_size_vc a h.1.1 h.1.2 k h.2)⟩
set_option maxHeartbeats 2000000 in
theorem fix_Clamp_vc (a : Int) (a0 : (-9223372036854775808 : Int) ≤ a) (a1 : a ≤ (9223372036854775807 : Int)) (b : Int) (b0 : (-9223372036854775808 : Int) ≤ b) (b1 : b ≤ (9223372036854775807 : Int)) (c : Int) (c0 : (-9223372036854775808 : Int) ≤ c) (c1 : c ≤ (9223372036854775807 : Int)) (k : AV → List (Option Blk) → List Blk → Prop) (hk : ∀ (r : Int), r = clampI a b c → True → k (AV.int IntKind.i64 r) [] []) :
  br (bif decide (a < b) then true else decide (c < b))
   ((k (AV.int IntKind.i64 b) [] []))
   (br (decide (a > c))
     ((k (AV.int IntKind.i64 c) [] []))
     ((k (AV.int IntKind.i64 a) [] []))) := by
  refine br_intro (fun c1 => ?_) (fun c1 => ?_) -- bif decide (a < b) then true else decide (c < b)
  · -- yes
    simp at c1 -- a < b ∨ c < b
    exact by exact hk _ (by unfold clampI; omega) trivial -- k (AV.int IntKind.i64 b) [] []
  · -- no
    simp at c1 -- b ≤ a ∧ b ≤ c
    refine brd (fun c2 => ?_) (fun c2 => ?_) -- decide (a > c)
    · -- yes
      exact by exact hk _ (by unfold clampI; omega) trivial -- k (AV.int IntKind.i64 c) [] []
    · -- no
      exact by exact hk _ (by unfold clampI; omega) trivial -- k (AV.int IntKind.i64 a) [] []

theorem fix_Clamp_ok : Holds Try.prog 26 (s3 clampI fun _ => True) := by
  refine fn_sound (env := mkEnv T0) (tab_ok T0_ok) Try.func26 Try.call26 fun args k h => ?_
  match args, h with
  | [.int .i64 a, .int .i64 b, .int .i64 c], h => exact ⟨by kernel_rfl, fun _ _ => none, fun _ _ => none, .cast (by kernel_rfl) (fix_Clamp_vc a h.1.1 h.1.2 b h.2.1.1 h.2.1.2 c h.2.2.1.1 h.2.2.1.2 k h.2.2.2)⟩
set_option maxHeartbeats 2000000 in
theorem mul64_vc (x : Int) (x0 : (0 : Int) ≤ x) (x1 : x ≤ (18446744073709551615 : Int)) (y : Int) (y0 : (0 : Int) ≤ y) (y1 : y ≤ (18446744073709551615 : Int)) (k : AV → List (Option Blk) → List Blk → Prop) (hk : ∀ (h l : Int), h = x * y / (18446744073709551616 : Int) → l = x * y % (18446744073709551616 : Int) → (0 : Int) ≤ h ∧ h ≤ (18446744073709551615 : Int) → (0 : Int) ≤ l ∧ l ≤ (18446744073709551615 : Int) → k (AV.tup [AV.int IntKind.u64 h, AV.int IntKind.u64 l]) [] []) :
  ∀ (n1 : Int),
  (n1 = bits BinOp.and IntKind.u64 x (4294967295 : Int)) →
  ((0 : Int) ≤ n1 ∧ n1 ≤ (18446744073709551615 : Int)) →
  ((0 : Int) ≤ (32 : Int)) ∧
  ∀ (n4 : Int),
  (n4 = x.fdiv ((2 : Int) ^ min (Int.toNat (32 : Int)) IntKind.u64.bits)) →
  ((0 : Int) ≤ n4 ∧ n4 ≤ (18446744073709551615 : Int)) →
  ∀ (n7 : Int),
  (n7 = bits BinOp.and IntKind.u64 y (4294967295 : Int)) →
  ((0 : Int) ≤ n7 ∧ n7 ≤ (18446744073709551615 : Int)) →
  ((0 : Int) ≤ (32 : Int)) ∧
  ∀ (n10 : Int),
  (n10 = y.fdiv ((2 : Int) ^ min (Int.toNat (32 : Int)) IntKind.u64.bits)) →
  ((0 : Int) ≤ n10 ∧ n10 ≤ (18446744073709551615 : Int)) →
  ∀ (n13 : Int),
  (n13 = IntKind.u64.wrap (n1 * n7)) →
  ((0 : Int) ≤ n13 ∧ n13 ≤ (18446744073709551615 : Int)) →
  ∀ (n16 : Int),
  (n16 = IntKind.u64.wrap (n4 * n7)) →
  ((0 : Int) ≤ n16 ∧ n16 ≤ (18446744073709551615 : Int)) →
  ((0 : Int) ≤ (32 : Int)) ∧
  ∀ (n19 : Int),
  (n19 = n13.fdiv ((2 : Int) ^ min (Int.toNat (32 : Int)) IntKind.u64.bits)) →
  ((0 : Int) ≤ n19 ∧ n19 ≤ (18446744073709551615 : Int)) →
  ∀ (n22 : Int),
  (n22 = IntKind.u64.wrap (n16 + n19)) →
  ((0 : Int) ≤ n22 ∧ n22 ≤ (18446744073709551615 : Int)) →
  ∀ (n25 : Int),
  (n25 = bits BinOp.and IntKind.u64 n22 (4294967295 : Int)) →
  ((0 : Int) ≤ n25 ∧ n25 ≤ (18446744073709551615 : Int)) →
  ((0 : Int) ≤ (32 : Int)) ∧
  ∀ (n28 : Int),
  (n28 = n22.fdiv ((2 : Int) ^ min (Int.toNat (32 : Int)) IntKind.u64.bits)) →
  ((0 : Int) ≤ n28 ∧ n28 ≤ (18446744073709551615 : Int)) →
  ∀ (n31 : Int),
  (n31 = IntKind.u64.wrap (n1 * n10)) →
  ((0 : Int) ≤ n31 ∧ n31 ≤ (18446744073709551615 : Int)) →
  ∀ (n34 : Int),
  (n34 = IntKind.u64.wrap (n25 + n31)) →
  ((0 : Int) ≤ n34 ∧ n34 ≤ (18446744073709551615 : Int)) →
  ∀ (n37 : Int),
  (n37 = IntKind.u64.wrap (n4 * n10)) →
  ((0 : Int) ≤ n37 ∧ n37 ≤ (18446744073709551615 : Int)) →
  ∀ (n40 : Int),
  (n40 = IntKind.u64.wrap (n37 + n28)) →
  ((0 : Int) ≤ n40 ∧ n40 ≤ (18446744073709551615 : Int)) →
  ((0 : Int) ≤ (32 : Int)) ∧
  ∀ (n43 : Int),
  (n43 = n34.fdiv ((2 : Int) ^ min (Int.toNat (32 : Int)) IntKind.u64.bits)) →
  ((0 : Int) ≤ n43 ∧ n43 ≤ (18446744073709551615 : Int)) →
  ∀ (n46 : Int),
  (n46 = IntKind.u64.wrap (n40 + n43)) →
  ((0 : Int) ≤ n46 ∧ n46 ≤ (18446744073709551615 : Int)) →
  ∀ (n49 : Int),
  (n49 = IntKind.u64.wrap (x * y)) →
  ((0 : Int) ≤ n49 ∧ n49 ≤ (18446744073709551615 : Int)) →
  (k (AV.tup [AV.int IntKind.u64 n46, AV.int IntKind.u64 n49]) [] []) := by
  intro n1
  intro q1 -- n1 = bits BinOp.and IntKind.u64 x (4294967295 : Int)
  rw [and_u64 32 (by decide) 4294967295 4294967296 (by decide) (by decide) _ (by omega) (by omega)] at q1
  intro ⟨l1, u1⟩ -- (0 : Int) ≤ n1 ∧ n1 ≤ (18446744073709551615 : Int)
  refine ⟨by omega, ?_⟩ -- (0 : Int) ≤ (32 : Int)
  intro n4
  intro q4 -- n4 = x.fdiv ((2 : Int) ^ min (Int.toNat (32 : Int)) IntKind.u64.bits)
  rw [show (2 : Int) ^ min (Int.toNat (32 : Int)) IntKind.u64.bits = 4294967296 from rfl, Int.fdiv_eq_ediv_of_nonneg _ (by decide)] at q4
  intro ⟨l4, u4⟩ -- (0 : Int) ≤ n4 ∧ n4 ≤ (18446744073709551615 : Int)
  intro n7
  intro q7 -- n7 = bits BinOp.and IntKind.u64 y (4294967295 : Int)
  rw [and_u64 32 (by decide) 4294967295 4294967296 (by decide) (by decide) _ (by omega) (by omega)] at q7
  intro ⟨l7, u7⟩ -- (0 : Int) ≤ n7 ∧ n7 ≤ (18446744073709551615 : Int)
  refine ⟨by omega, ?_⟩ -- (0 : Int) ≤ (32 : Int)
  intro n10
  intro q10 -- n10 = y.fdiv ((2 : Int) ^ min (Int.toNat (32 : Int)) IntKind.u64.bits)
  rw [show (2 : Int) ^ min (Int.toNat (32 : Int)) IntKind.u64.bits = 4294967296 from rfl, Int.fdiv_eq_ediv_of_nonneg _ (by decide)] at q10
  intro ⟨l10, u10⟩ -- (0 : Int) ≤ n10 ∧ n10 ≤ (18446744073709551615 : Int)
  intro n13
  intro q13 -- n13 = IntKind.u64.wrap (n1 * n7)
  rw [IntKind.wrap_u64] at q13
  intro ⟨l13, u13⟩ -- (0 : Int) ≤ n13 ∧ n13 ≤ (18446744073709551615 : Int)
  intro n16
  intro q16 -- n16 = IntKind.u64.wrap (n4 * n7)
  rw [IntKind.wrap_u64] at q16
  intro ⟨l16, u16⟩ -- (0 : Int) ≤ n16 ∧ n16 ≤ (18446744073709551615 : Int)
  refine ⟨by omega, ?_⟩ -- (0 : Int) ≤ (32 : Int)
  intro n19
  intro q19 -- n19 = n13.fdiv ((2 : Int) ^ min (Int.toNat (32 : Int)) IntKind.u64.bits)
  rw [show (2 : Int) ^ min (Int.toNat (32 : Int)) IntKind.u64.bits = 4294967296 from rfl, Int.fdiv_eq_ediv_of_nonneg _ (by decide)] at q19
  intro ⟨l19, u19⟩ -- (0 : Int) ≤ n19 ∧ n19 ≤ (18446744073709551615 : Int)
  intro n22
  intro q22 -- n22 = IntKind.u64.wrap (n16 + n19)
  rw [IntKind.wrap_u64] at q22
  intro ⟨l22, u22⟩ -- (0 : Int) ≤ n22 ∧ n22 ≤ (18446744073709551615 : Int)
  intro n25
  intro q25 -- n25 = bits BinOp.and IntKind.u64 n22 (4294967295 : Int)
  rw [and_u64 32 (by decide) 4294967295 4294967296 (by decide) (by decide) _ (by omega) (by omega)] at q25
  intro ⟨l25, u25⟩ -- (0 : Int) ≤ n25 ∧ n25 ≤ (18446744073709551615 : Int)
  refine ⟨by omega, ?_⟩ -- (0 : Int) ≤ (32 : Int)
  intro n28
  intro q28 -- n28 = n22.fdiv ((2 : Int) ^ min (Int.toNat (32 : Int)) IntKind.u64.bits)
  rw [show (2 : Int) ^ min (Int.toNat (32 : Int)) IntKind.u64.bits = 4294967296 from rfl, Int.fdiv_eq_ediv_of_nonneg _ (by decide)] at q28
  intro ⟨l28, u28⟩ -- (0 : Int) ≤ n28 ∧ n28 ≤ (18446744073709551615 : Int)
  intro n31
  intro q31 -- n31 = IntKind.u64.wrap (n1 * n10)
  rw [IntKind.wrap_u64] at q31
  intro ⟨l31, u31⟩ -- (0 : Int) ≤ n31 ∧ n31 ≤ (18446744073709551615 : Int)
  intro n34
  intro q34 -- n34 = IntKind.u64.wrap (n25 + n31)
  rw [IntKind.wrap_u64] at q34
  intro ⟨l34, u34⟩ -- (0 : Int) ≤ n34 ∧ n34 ≤ (18446744073709551615 : Int)
  intro n37
  intro q37 -- n37 = IntKind.u64.wrap (n4 * n10)
  rw [IntKind.wrap_u64] at q37
  intro ⟨l37, u37⟩ -- (0 : Int) ≤ n37 ∧ n37 ≤ (18446744073709551615 : Int)
  intro n40
  intro q40 -- n40 = IntKind.u64.wrap (n37 + n28)
  rw [IntKind.wrap_u64] at q40
  intro ⟨l40, u40⟩ -- (0 : Int) ≤ n40 ∧ n40 ≤ (18446744073709551615 : Int)
  refine ⟨by omega, ?_⟩ -- (0 : Int) ≤ (32 : Int)
  intro n43
  intro q43 -- n43 = n34.fdiv ((2 : Int) ^ min (Int.toNat (32 : Int)) IntKind.u64.bits)
  rw [show (2 : Int) ^ min (Int.toNat (32 : Int)) IntKind.u64.bits = 4294967296 from rfl, Int.fdiv_eq_ediv_of_nonneg _ (by decide)] at q43
  intro ⟨l43, u43⟩ -- (0 : Int) ≤ n43 ∧ n43 ≤ (18446744073709551615 : Int)
  intro n46
  intro q46 -- n46 = IntKind.u64.wrap (n40 + n43)
  rw [IntKind.wrap_u64] at q46
  intro ⟨l46, u46⟩ -- (0 : Int) ≤ n46 ∧ n46 ≤ (18446744073709551615 : Int)
  intro n49
  intro q49 -- n49 = IntKind.u64.wrap (x * y)
  rw [IntKind.wrap_u64] at q49
  intro ⟨l49, u49⟩ -- (0 : Int) ≤ n49 ∧ n49 ≤ (18446744073709551615 : Int)
  -- k (AV.tup [AV.int IntKind.u64 n46, AV.int IntKind.u64 n49]) [] []
  have e := mul64_arith x y (by omega) (by omega) (by omega) (by omega)
  refine hk _ _ ?_ q49 ⟨l46, u46⟩ ⟨l49, u49⟩
  rw [← e]
  subst_vars
  omega

theorem mul64_ok : Holds Try.prog 28 mul64S := by
  refine fn_sound (env := mkEnv T0) (tab_ok T0_ok) Try.func28 Try.call28 fun args k h => ?_
  match args, h with
  | [.int .u64 x, .int .u64 y], h => exact ⟨by kernel_rfl, fun _ _ => none, fun _ _ => none, .cast (by kernel_rfl) (mul64_vc x h.1.1 h.1.2 y h.2.1.1 h.2.1.2 k h.2.2)⟩
theorem T1_ok : TabOk Try.prog T1 := ⟨fix_stop_ok, fix_size_ok, fix_Clamp_ok, mul64_ok, add64_ok, trivial⟩
set_option maxHeartbeats 2000000 in
theorem fix_Of_vc (a : Int) (a0 : (-9223372036854775808 : Int) ≤ a) (a1 : a ≤ (9223372036854775807 : Int)) (k : AV → List (Option Blk) → List Blk → Prop) (hk : ∀ (r : Int), r = ofI a → (-70368744177664 : Int) ≤ r ∧ r ≤ (70368744177664 : Int) → k (AV.int IntKind.i64 r) [] []) :
  ∀ (n1 : Int),
  (n1 = max a (-1073741824 : Int)) →
  ((-9223372036854775808 : Int) ≤ n1 ∧ n1 ≤ (9223372036854775807 : Int)) →
  ∀ (n4 : Int),
  (n4 = min n1 (1073741824 : Int)) →
  ((-9223372036854775808 : Int) ≤ n4 ∧ n4 ≤ (9223372036854775807 : Int)) →
  ∀ (n7 : Int),
  (n7 = IntKind.i64.wrap (n4 * (65536 : Int))) →
  ((-9223372036854775808 : Int) ≤ n7 ∧ n7 ≤ (9223372036854775807 : Int)) →
  (k (AV.int IntKind.i64 n7) [] []) := by
  intro n1
  intro q1 -- n1 = max a (-1073741824 : Int)
  intro ⟨l1, u1⟩ -- (-9223372036854775808 : Int) ≤ n1 ∧ n1 ≤ (9223372036854775807 : Int)
  intro n4
  intro q4 -- n4 = min n1 (1073741824 : Int)
  intro ⟨l4, u4⟩ -- (-9223372036854775808 : Int) ≤ n4 ∧ n4 ≤ (9223372036854775807 : Int)
  intro n7
  intro q7 -- n7 = IntKind.i64.wrap (n4 * (65536 : Int))
  rw [IntKind.wrap_i64] at q7
  intro ⟨l7, u7⟩ -- (-9223372036854775808 : Int) ≤ n7 ∧ n7 ≤ (9223372036854775807 : Int)
  exact by exact hk _ (by unfold ofI; omega) (by omega) -- k (AV.int IntKind.i64 n7) [] []

theorem fix_Of_ok : Holds Try.prog 16 (s1 ofI BD) := by
  refine fn_sound (env := mkEnv T1) (tab_ok T1_ok) Try.func16 Try.call16 fun args k h => ?_
  match args, h with
  | [.int .i64 a], h => exact ⟨by kernel_rfl, fun _ _ => none, fun _ _ => none, .cast (by kernel_rfl) (fix_Of_vc a h.1.1 h.1.2 k h.2)⟩
set_option maxHeartbeats 2000000 in
theorem fix_Div_vc (a : Int) (a0 : (-9223372036854775808 : Int) ≤ a) (a1 : a ≤ (9223372036854775807 : Int)) (b : Int) (b0 : (-9223372036854775808 : Int) ≤ b) (b1 : b ≤ (9223372036854775807 : Int)) (k : AV → List (Option Blk) → List Blk → Prop) (hk : ∀ (q e : Int), q = divQ a b → e = divE b → (-70368744177664 : Int) ≤ q ∧ q ≤ (70368744177664 : Int) → e = (0 : Int) ∨ e = (10 : Int) → k (AV.tup [AV.int IntKind.i64 q, AV.int IntKind.i64 e]) [] []) :
  (
   ((-9223372036854775808 : Int) ≤ a) ∧
   (a ≤ (9223372036854775807 : Int))) ∧
  ∀ (r_1 : Int),
  (r_1 = stopI a) →
  ((-70368744177664 : Int) ≤ r_1 ∧ r_1 ≤ (70368744177664 : Int)) →
  (
   ((-9223372036854775808 : Int) ≤ b) ∧
   (b ≤ (9223372036854775807 : Int))) ∧
  ∀ (r_4 : Int),
  (r_4 = stopI b) →
  ((-70368744177664 : Int) ≤ r_4 ∧ r_4 ≤ (70368744177664 : Int)) →
  br (r_4 == (0 : Int))
   ((k (AV.tup [AV.int IntKind.i64 (0 : Int), AV.int IntKind.i64 (10 : Int)]) [] []))
   (∀ (n7 : Int),
    (n7 = IntKind.i64.wrap (r_1 * (65536 : Int))) →
    ((-9223372036854775808 : Int) ≤ n7 ∧ n7 ≤ (9223372036854775807 : Int)) →
    (r_4 ≠ (0 : Int)) ∧
    ∀ (n10 : Int),
    (n10 = IntKind.i64.wrap (n7.tdiv r_4)) →
    ((-9223372036854775808 : Int) ≤ n10 ∧ n10 ≤ (9223372036854775807 : Int)) →
    (r_4 ≠ (0 : Int)) ∧
    ∀ (n13 : Int),
    (n13 = n7.tmod r_4) →
    ((-9223372036854775808 : Int) ≤ n13 ∧ n13 ≤ (9223372036854775807 : Int)) →
    br (bif n13 != (0 : Int) then !decide (n7 < (0 : Int)) == decide (r_4 < (0 : Int)) else false)
     (∀ (n16 : Int),
      (n16 = IntKind.i64.wrap (n10 - (1 : Int))) →
      ((-9223372036854775808 : Int) ≤ n16 ∧ n16 ≤ (9223372036854775807 : Int)) →
      (
       ((-9223372036854775808 : Int) ≤ n16) ∧
       (n16 ≤ (9223372036854775807 : Int))) ∧
      ∀ (r_19 : Int),
      (r_19 = stopI n16) →
      ((-70368744177664 : Int) ≤ r_19 ∧ r_19 ≤ (70368744177664 : Int)) →
      (k (AV.tup [AV.int IntKind.i64 r_19, AV.int IntKind.i64 (0 : Int)]) [] []))
     ((
       ((-9223372036854775808 : Int) ≤ n10) ∧
       (n10 ≤ (9223372036854775807 : Int))) ∧
      ∀ (r_22 : Int),
      (r_22 = stopI n10) →
      ((-70368744177664 : Int) ≤ r_22 ∧ r_22 ≤ (70368744177664 : Int)) →
      (k (AV.tup [AV.int IntKind.i64 r_22, AV.int IntKind.i64 (0 : Int)]) [] []))) := by
  refine ⟨by exact ⟨by assumption, by assumption⟩, ?_⟩ -- (-9223372036854775808 : Int) ≤ a ∧ a ≤ (9223372036854775807 : Int)
  intro r_1
  intro h1 -- r_1 = stopI a
  intro ⟨a2, b2⟩ -- (-70368744177664 : Int) ≤ r_1 ∧ r_1 ≤ (70368744177664 : Int)
  refine ⟨by exact ⟨by assumption, by assumption⟩, ?_⟩ -- (-9223372036854775808 : Int) ≤ b ∧ b ≤ (9223372036854775807 : Int)
  intro r_4
  intro h3 -- r_4 = stopI b
  intro ⟨a4, b4⟩ -- (-70368744177664 : Int) ≤ r_4 ∧ r_4 ≤ (70368744177664 : Int)
  refine br_intro (fun c5 => ?_) (fun c5 => ?_) -- r_4 == (0 : Int)
  · -- yes
    simp at c5 -- r_4 = (0 : Int)
    -- k (AV.tup [AV.int IntKind.i64 (0 : Int), AV.int IntKind.i64 (10 : Int)]) [] []
    exact hk _ _ (by unfold divQ; rw [← h3, if_pos c5]) (by unfold divE; rw [← h3, if_pos c5]) (by omega) (by omega)
  · -- no
    simp at c5 -- ¬r_4 = (0 : Int)
    intro n7
    intro q7 -- n7 = IntKind.i64.wrap (r_1 * (65536 : Int))
    rw [IntKind.wrap_i64] at q7
    intro ⟨l7, u7⟩ -- (-9223372036854775808 : Int) ≤ n7 ∧ n7 ≤ (9223372036854775807 : Int)
    refine ⟨by assumption, ?_⟩ -- r_4 ≠ (0 : Int)
    intro n10
    intro q10 -- n10 = IntKind.i64.wrap (n7.tdiv r_4)
    rw [IntKind.wrap_i64] at q10
    intro ⟨l10, u10⟩ -- (-9223372036854775808 : Int) ≤ n10 ∧ n10 ≤ (9223372036854775807 : Int)
    refine ⟨by assumption, ?_⟩ -- r_4 ≠ (0 : Int)
    intro n13
    intro q13 -- n13 = n7.tmod r_4
    intro ⟨l13, u13⟩ -- (-9223372036854775808 : Int) ≤ n13 ∧ n13 ≤ (9223372036854775807 : Int)
    refine br_intro (fun c6 => ?_) (fun c6 => ?_) -- bif n13 != (0 : Int) then !decide (n7 < (0 : Int)) == decide (r_4 < (0 : Int)) else false
    · -- yes
      simp at c6 -- ¬n13 = (0 : Int) ∧ ¬(n7 < (0 : Int) ↔ r_4 < (0 : Int))
      intro n16
      intro q16 -- n16 = IntKind.i64.wrap (n10 - (1 : Int))
      rw [IntKind.wrap_i64] at q16
      intro ⟨l16, u16⟩ -- (-9223372036854775808 : Int) ≤ n16 ∧ n16 ≤ (9223372036854775807 : Int)
      refine ⟨by exact ⟨by assumption, by assumption⟩, ?_⟩ -- (-9223372036854775808 : Int) ≤ n16 ∧ n16 ≤ (9223372036854775807 : Int)
      intro r_19
      intro h7 -- r_19 = stopI n16
      intro ⟨a8, b8⟩ -- (-70368744177664 : Int) ≤ r_19 ∧ r_19 ≤ (70368744177664 : Int)
      -- k (AV.tup [AV.int IntKind.i64 r_19, AV.int IntKind.i64 (0 : Int)]) [] []
      have e := (div_code r_1 r_4 n7 n10 n13 ⟨a2, b2⟩ c5 q7 q10 q13).1 c6 n16 q16
      exact hk _ _ (by unfold divQ; rw [← h3, if_neg c5, ← h1, ← e]; exact h7) (by unfold divE; rw [← h3, if_neg c5]) ⟨a8, b8⟩ (by omega)
    · -- no
      simp at c6 -- ¬n13 = (0 : Int) → (n7 < (0 : Int) ↔ r_4 < (0 : Int))
      refine ⟨by exact ⟨by assumption, by assumption⟩, ?_⟩ -- (-9223372036854775808 : Int) ≤ n10 ∧ n10 ≤ (9223372036854775807 : Int)
      intro r_22
      intro h9 -- r_22 = stopI n10
      intro ⟨a10, b10⟩ -- (-70368744177664 : Int) ≤ r_22 ∧ r_22 ≤ (70368744177664 : Int)
      -- k (AV.tup [AV.int IntKind.i64 r_22, AV.int IntKind.i64 (0 : Int)]) [] []
      have e := (div_code r_1 r_4 n7 n10 n13 ⟨a2, b2⟩ c5 q7 q10 q13).2 c6
      exact hk _ _ (by unfold divQ; rw [← h3, if_neg c5, ← h1, ← e]; exact h9) (by unfold divE; rw [← h3, if_neg c5]) ⟨a10, b10⟩ (by omega)

theorem fix_Div_ok : Holds Try.prog 15 divS := by
  refine fn_sound (env := mkEnv T1) (tab_ok T1_ok) Try.func15 Try.call15 fun args k h => ?_
  match args, h with
  | [.int .i64 a, .int .i64 b], h => exact ⟨by kernel_rfl, fun _ _ => none, fun _ _ => none, .cast (by kernel_rfl) (fix_Div_vc a h.1.1 h.1.2 b h.2.1.1 h.2.1.2 k h.2.2)⟩
set_option maxHeartbeats 2000000 in
theorem fix_Mix_vc (a : Int) (a0 : (-9223372036854775808 : Int) ≤ a) (a1 : a ≤ (9223372036854775807 : Int)) (b : Int) (b0 : (-9223372036854775808 : Int) ≤ b) (b1 : b ≤ (9223372036854775807 : Int)) (c : Int) (c0 : (-9223372036854775808 : Int) ≤ c) (c1 : c ≤ (9223372036854775807 : Int)) (k : AV → List (Option Blk) → List Blk → Prop) (hk : ∀ (r : Int), r = mixI a b c → (-70368744177664 : Int) ≤ r ∧ r ≤ (70368744177664 : Int) → k (AV.int IntKind.i64 r) [] []) :
  (
   ((-9223372036854775808 : Int) ≤ a) ∧
   (a ≤ (9223372036854775807 : Int))) ∧
  ∀ (r_1 : Int),
  (r_1 = stopI a) →
  ((-70368744177664 : Int) ≤ r_1 ∧ r_1 ≤ (70368744177664 : Int)) →
  (
   ((-9223372036854775808 : Int) ≤ b) ∧
   (b ≤ (9223372036854775807 : Int))) ∧
  ∀ (r_4 : Int),
  (r_4 = stopI b) →
  ((-70368744177664 : Int) ≤ r_4 ∧ r_4 ≤ (70368744177664 : Int)) →
  (
   ((-9223372036854775808 : Int) ≤ c) ∧
   (c ≤ (9223372036854775807 : Int))) ∧
  (
   ((-9223372036854775808 : Int) ≤ (0 : Int)) ∧
   ((0 : Int) ≤ (9223372036854775807 : Int))) ∧
  (
   ((-9223372036854775808 : Int) ≤ (65536 : Int)) ∧
   ((65536 : Int) ≤ (9223372036854775807 : Int))) ∧
  ∀ (r_7 : Int),
  (r_7 = clampI c (0 : Int) (65536 : Int)) →
  (True) →
  ∀ (n10 : Int),
  (n10 = IntKind.i64.wrap (r_4 - r_1)) →
  ((-9223372036854775808 : Int) ≤ n10 ∧ n10 ≤ (9223372036854775807 : Int)) →
  (
   ((-9223372036854775808 : Int) ≤ n10) ∧
   (n10 ≤ (9223372036854775807 : Int))) ∧
  ∀ (u_13 : Int),
  (u_13 = if n10 < (0 : Int) then -n10 else n10) →
  ((0 : Int) ≤ u_13 ∧ u_13 ≤ (9223372036854775808 : Int)) →
  ∀ (n16 : Int),
  (n16 = IntKind.u64.wrap r_7) →
  ((0 : Int) ≤ n16 ∧ n16 ≤ (18446744073709551615 : Int)) →
  (
   ((0 : Int) ≤ u_13) ∧
   (u_13 ≤ (18446744073709551615 : Int))) ∧
  (
   ((0 : Int) ≤ n16) ∧
   (n16 ≤ (18446744073709551615 : Int))) ∧
  ∀ (h_19 : Int),
  ∀ (l_20 : Int),
  (h_19 = u_13 * n16 / (18446744073709551616 : Int)) →
  (l_20 = u_13 * n16 % (18446744073709551616 : Int)) →
  ((0 : Int) ≤ h_19 ∧ h_19 ≤ (18446744073709551615 : Int)) →
  ((0 : Int) ≤ l_20 ∧ l_20 ≤ (18446744073709551615 : Int)) →
  br (decide (n10 < (0 : Int)))
   ((
     ((0 : Int) ≤ l_20) ∧
     (l_20 ≤ (18446744073709551615 : Int))) ∧
    (
     ((0 : Int) ≤ (65535 : Int)) ∧
     ((65535 : Int) ≤ (18446744073709551615 : Int))) ∧
    (
     ((0 : Int) ≤ (0 : Int)) ∧
     ((0 : Int) ≤ (1 : Int))) ∧
    ∀ (s_25 : Int),
    ∀ (d_26 : Int),
    (s_25 = (l_20 + (65535 : Int) + (0 : Int)) % (18446744073709551616 : Int)) →
    (d_26 = (l_20 + (65535 : Int) + (0 : Int)) / (18446744073709551616 : Int)) →
    ((0 : Int) ≤ s_25 ∧ s_25 ≤ (18446744073709551615 : Int)) →
    ((0 : Int) ≤ d_26 ∧ d_26 ≤ (1 : Int)) →
    ∀ (n31 : Int),
    (n31 = IntKind.u64.wrap (h_19 + d_26)) →
    ((0 : Int) ≤ n31 ∧ n31 ≤ (18446744073709551615 : Int)) →
    ((0 : Int) ≤ (48 : Int)) ∧
    ∀ (n34 : Int),
    (n34 = IntKind.u64.wrap (n31 * (2 : Int) ^ min (Int.toNat (48 : Int)) IntKind.u64.bits)) →
    ((0 : Int) ≤ n34 ∧ n34 ≤ (18446744073709551615 : Int)) →
    ((0 : Int) ≤ (16 : Int)) ∧
    ∀ (n37 : Int),
    (n37 = s_25.fdiv ((2 : Int) ^ min (Int.toNat (16 : Int)) IntKind.u64.bits)) →
    ((0 : Int) ≤ n37 ∧ n37 ≤ (18446744073709551615 : Int)) →
    ∀ (n40 : Int),
    (n40 = bits BinOp.or IntKind.u64 n34 n37) →
    ((0 : Int) ≤ n40 ∧ n40 ≤ (18446744073709551615 : Int)) →
    ∀ (n43 : Int),
    (n43 = IntKind.i64.wrap n40) →
    ((-9223372036854775808 : Int) ≤ n43 ∧ n43 ≤ (9223372036854775807 : Int)) →
    ∀ (n46 : Int),
    (n46 = IntKind.i64.wrap (r_1 - n43)) →
    ((-9223372036854775808 : Int) ≤ n46 ∧ n46 ≤ (9223372036854775807 : Int)) →
    (k (AV.int IntKind.i64 n46) [] []))
   (((0 : Int) ≤ (48 : Int)) ∧
    ∀ (n49 : Int),
    (n49 = IntKind.u64.wrap (h_19 * (2 : Int) ^ min (Int.toNat (48 : Int)) IntKind.u64.bits)) →
    ((0 : Int) ≤ n49 ∧ n49 ≤ (18446744073709551615 : Int)) →
    ((0 : Int) ≤ (16 : Int)) ∧
    ∀ (n52 : Int),
    (n52 = l_20.fdiv ((2 : Int) ^ min (Int.toNat (16 : Int)) IntKind.u64.bits)) →
    ((0 : Int) ≤ n52 ∧ n52 ≤ (18446744073709551615 : Int)) →
    ∀ (n55 : Int),
    (n55 = bits BinOp.or IntKind.u64 n49 n52) →
    ((0 : Int) ≤ n55 ∧ n55 ≤ (18446744073709551615 : Int)) →
    ∀ (n58 : Int),
    (n58 = IntKind.i64.wrap n55) →
    ((-9223372036854775808 : Int) ≤ n58 ∧ n58 ≤ (9223372036854775807 : Int)) →
    ∀ (n61 : Int),
    (n61 = IntKind.i64.wrap (r_1 + n58)) →
    ((-9223372036854775808 : Int) ≤ n61 ∧ n61 ≤ (9223372036854775807 : Int)) →
    (k (AV.int IntKind.i64 n61) [] [])) := by
  refine ⟨by exact ⟨by assumption, by assumption⟩, ?_⟩ -- (-9223372036854775808 : Int) ≤ a ∧ a ≤ (9223372036854775807 : Int)
  intro r_1
  intro h1 -- r_1 = stopI a
  intro ⟨a2, b2⟩ -- (-70368744177664 : Int) ≤ r_1 ∧ r_1 ≤ (70368744177664 : Int)
  refine ⟨by exact ⟨by assumption, by assumption⟩, ?_⟩ -- (-9223372036854775808 : Int) ≤ b ∧ b ≤ (9223372036854775807 : Int)
  intro r_4
  intro h3 -- r_4 = stopI b
  intro ⟨a4, b4⟩ -- (-70368744177664 : Int) ≤ r_4 ∧ r_4 ≤ (70368744177664 : Int)
  refine ⟨by exact ⟨by assumption, by assumption⟩, ?_⟩ -- (-9223372036854775808 : Int) ≤ c ∧ c ≤ (9223372036854775807 : Int)
  refine ⟨by omega, ?_⟩ -- (-9223372036854775808 : Int) ≤ (0 : Int) ∧ (0 : Int) ≤ (9223372036854775807 : Int)
  refine ⟨by omega, ?_⟩ -- (-9223372036854775808 : Int) ≤ (65536 : Int) ∧ (65536 : Int) ≤ (9223372036854775807 : Int)
  intro r_7
  intro h5 -- r_7 = clampI c (0 : Int) (65536 : Int)
  intro h6 -- True
  have p7 : 0 ≤ r_7 ∧ r_7 ≤ 65536 := by (rw [h5]; exact clamp_bd c)
  intro n10
  intro q10 -- n10 = IntKind.i64.wrap (r_4 - r_1)
  rw [IntKind.wrap_i64] at q10
  intro ⟨l10, u10⟩ -- (-9223372036854775808 : Int) ≤ n10 ∧ n10 ≤ (9223372036854775807 : Int)
  refine ⟨by exact ⟨by assumption, by assumption⟩, ?_⟩ -- (-9223372036854775808 : Int) ≤ n10 ∧ n10 ≤ (9223372036854775807 : Int)
  intro u_13
  intro h7 -- u_13 = if n10 < (0 : Int) then -n10 else n10
  intro ⟨a8, b8⟩ -- (0 : Int) ≤ u_13 ∧ u_13 ≤ (9223372036854775808 : Int)
  intro n16
  intro q16 -- n16 = IntKind.u64.wrap r_7
  rw [IntKind.wrap_u64] at q16
  intro ⟨l16, u16⟩ -- (0 : Int) ≤ n16 ∧ n16 ≤ (18446744073709551615 : Int)
  refine ⟨by omega, ?_⟩ -- (0 : Int) ≤ u_13 ∧ u_13 ≤ (18446744073709551615 : Int)
  refine ⟨by exact ⟨by assumption, by assumption⟩, ?_⟩ -- (0 : Int) ≤ n16 ∧ n16 ≤ (18446744073709551615 : Int)
  intro h_19
  intro l_20
  intro h9 -- h_19 = u_13 * n16 / (18446744073709551616 : Int)
  intro h10 -- l_20 = u_13 * n16 % (18446744073709551616 : Int)
  intro ⟨a11, b11⟩ -- (0 : Int) ≤ h_19 ∧ h_19 ≤ (18446744073709551615 : Int)
  intro ⟨a12, b12⟩ -- (0 : Int) ≤ l_20 ∧ l_20 ≤ (18446744073709551615 : Int)
  have p13 : 0 ≤ u_13 ∧ u_13 ≤ 140737488355328 := by exact abs_bd _ ⟨by omega, by omega⟩ h7
  have z : 0 ≤ u_13 * n16 ∧ u_13 * n16 ≤ 9223372036854775808 := by exact mul_upto p13 (B := 65536) ⟨by omega, by omega⟩ (by decide) (by decide)
  refine brd (fun c13 => ?_) (fun c13 => ?_) -- decide (n10 < (0 : Int))
  · -- yes
    refine ⟨by exact ⟨by assumption, by assumption⟩, ?_⟩ -- (0 : Int) ≤ l_20 ∧ l_20 ≤ (18446744073709551615 : Int)
    refine ⟨by omega, ?_⟩ -- (0 : Int) ≤ (65535 : Int) ∧ (65535 : Int) ≤ (18446744073709551615 : Int)
    refine ⟨by omega, ?_⟩ -- (0 : Int) ≤ (0 : Int) ∧ (0 : Int) ≤ (1 : Int)
    intro s_25
    intro d_26
    intro h14 -- s_25 = (l_20 + (65535 : Int) + (0 : Int)) % (18446744073709551616 : Int)
    intro h15 -- d_26 = (l_20 + (65535 : Int) + (0 : Int)) / (18446744073709551616 : Int)
    intro ⟨a16, b16⟩ -- (0 : Int) ≤ s_25 ∧ s_25 ≤ (18446744073709551615 : Int)
    intro ⟨a17, b17⟩ -- (0 : Int) ≤ d_26 ∧ d_26 ≤ (1 : Int)
    intro n31
    intro q31 -- n31 = IntKind.u64.wrap (h_19 + d_26)
    rw [IntKind.wrap_u64] at q31
    intro ⟨l31, u31⟩ -- (0 : Int) ≤ n31 ∧ n31 ≤ (18446744073709551615 : Int)
    refine ⟨by omega, ?_⟩ -- (0 : Int) ≤ (48 : Int)
    intro n34
    intro q34 -- n34 = IntKind.u64.wrap (n31 * (2 : Int) ^ min (Int.toNat (48 : Int)) IntKind.u64.bits)
    rw [show (2 : Int) ^ min (Int.toNat (48 : Int)) IntKind.u64.bits = 281474976710656 from rfl] at q34
    rw [IntKind.wrap_u64] at q34
    intro ⟨l34, u34⟩ -- (0 : Int) ≤ n34 ∧ n34 ≤ (18446744073709551615 : Int)
    refine ⟨by omega, ?_⟩ -- (0 : Int) ≤ (16 : Int)
    intro n37
    intro q37 -- n37 = s_25.fdiv ((2 : Int) ^ min (Int.toNat (16 : Int)) IntKind.u64.bits)
    rw [show (2 : Int) ^ min (Int.toNat (16 : Int)) IntKind.u64.bits = 65536 from rfl, Int.fdiv_eq_ediv_of_nonneg _ (by decide)] at q37
    intro ⟨l37, u37⟩ -- (0 : Int) ≤ n37 ∧ n37 ≤ (18446744073709551615 : Int)
    intro n40
    intro q40 -- n40 = bits BinOp.or IntKind.u64 n34 n37
    have o40 : n40 = n34 + n37 := by (rw [q40]; exact or_sum 48 n34 n37 281474976710656 (by decide) ⟨l34, u34⟩ ⟨l37, by omega⟩ (by decide) (by omega))
    intro ⟨l40, u40⟩ -- (0 : Int) ≤ n40 ∧ n40 ≤ (18446744073709551615 : Int)
    intro n43
    intro q43 -- n43 = IntKind.i64.wrap n40
    rw [IntKind.wrap_i64] at q43
    intro ⟨l43, u43⟩ -- (-9223372036854775808 : Int) ≤ n43 ∧ n43 ≤ (9223372036854775807 : Int)
    intro n46
    intro q46 -- n46 = IntKind.i64.wrap (r_1 - n43)
    rw [IntKind.wrap_i64] at q46
    intro ⟨l46, u46⟩ -- (-9223372036854775808 : Int) ≤ n46 ∧ n46 ≤ (9223372036854775807 : Int)
    -- k (AV.int IntKind.i64 n46) [] []
    have e10 : r_4 - r_1 = n10 := by omega
    have e16 : r_7 = n16 := by omega
    have ez := (abs_part (p := n16) h7).1 c13
    have e : n46 = mixI a b c := by unfold mixI; rw [← h1, ← h3, ← h5, e10, e16, ez]; omega
    exact hk _ e (by rw [e]; exact mix_bd a b c)
  · -- no
    refine ⟨by omega, ?_⟩ -- (0 : Int) ≤ (48 : Int)
    intro n49
    intro q49 -- n49 = IntKind.u64.wrap (h_19 * (2 : Int) ^ min (Int.toNat (48 : Int)) IntKind.u64.bits)
    rw [show (2 : Int) ^ min (Int.toNat (48 : Int)) IntKind.u64.bits = 281474976710656 from rfl] at q49
    rw [IntKind.wrap_u64] at q49
    intro ⟨l49, u49⟩ -- (0 : Int) ≤ n49 ∧ n49 ≤ (18446744073709551615 : Int)
    refine ⟨by omega, ?_⟩ -- (0 : Int) ≤ (16 : Int)
    intro n52
    intro q52 -- n52 = l_20.fdiv ((2 : Int) ^ min (Int.toNat (16 : Int)) IntKind.u64.bits)
    rw [show (2 : Int) ^ min (Int.toNat (16 : Int)) IntKind.u64.bits = 65536 from rfl, Int.fdiv_eq_ediv_of_nonneg _ (by decide)] at q52
    intro ⟨l52, u52⟩ -- (0 : Int) ≤ n52 ∧ n52 ≤ (18446744073709551615 : Int)
    intro n55
    intro q55 -- n55 = bits BinOp.or IntKind.u64 n49 n52
    have o55 : n55 = n49 + n52 := by (rw [q55]; exact or_sum 48 n49 n52 281474976710656 (by decide) ⟨l49, u49⟩ ⟨l52, by omega⟩ (by decide) (by omega))
    intro ⟨l55, u55⟩ -- (0 : Int) ≤ n55 ∧ n55 ≤ (18446744073709551615 : Int)
    intro n58
    intro q58 -- n58 = IntKind.i64.wrap n55
    rw [IntKind.wrap_i64] at q58
    intro ⟨l58, u58⟩ -- (-9223372036854775808 : Int) ≤ n58 ∧ n58 ≤ (9223372036854775807 : Int)
    intro n61
    intro q61 -- n61 = IntKind.i64.wrap (r_1 + n58)
    rw [IntKind.wrap_i64] at q61
    intro ⟨l61, u61⟩ -- (-9223372036854775808 : Int) ≤ n61 ∧ n61 ≤ (9223372036854775807 : Int)
    -- k (AV.int IntKind.i64 n61) [] []
    have e10 : r_4 - r_1 = n10 := by omega
    have e16 : r_7 = n16 := by omega
    have ez := (abs_part (p := n16) h7).2 c13
    have e : n61 = mixI a b c := by unfold mixI; rw [← h1, ← h3, ← h5, e10, e16, ez]; omega
    exact hk _ e (by rw [e]; exact mix_bd a b c)

theorem fix_Mix_ok : Holds Try.prog 23 (s3 mixI BD) := by
  refine fn_sound (env := mkEnv T1) (tab_ok T1_ok) Try.func23 Try.call23 fun args k h => ?_
  match args, h with
  | [.int .i64 a, .int .i64 b, .int .i64 c], h => exact ⟨by kernel_rfl, fun _ _ => none, fun _ _ => none, .cast (by kernel_rfl) (fix_Mix_vc a h.1.1 h.1.2 b h.2.1.1 h.2.1.2 c h.2.2.1.1 h.2.2.1.2 k h.2.2.2)⟩
end Go.Proofs.Ytmlfpijallccgaa

