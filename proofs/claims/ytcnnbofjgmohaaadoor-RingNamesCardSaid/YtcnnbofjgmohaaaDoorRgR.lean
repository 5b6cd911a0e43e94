import Derived.Test.YtcnnbofjgmohaaaDoorRgO
namespace Go.Proofs.YtcnnbofjgmohaaaDoor
open Go Go.Eng Go.Rg Go.Fx Go.Proofs
set_option linter.unusedVariables false
set_option maxHeartbeats 2000000 in
theorem bit_vc (i : Int) (i0 : (-9223372036854775808 : Int) ≤ i) (i1 : i ≤ (9223372036854775807 : Int)) (k : AV → List (Option Blk) → List Blk → Prop) (hk : ∀ (r : Int), r = bitV i → (0 : Int) ≤ r ∧ r ≤ (2147483648 : Int) → k (AV.int IntKind.u32 r) [] []) :
  br (bif decide (i < (0 : Int)) then true else decide (i > (31 : Int)))
   ((k (AV.int IntKind.u32 (0 : Int)) [] []))
   (((0 : Int) ≤ i) ∧
    ∀ (n1 : Int),
    (n1 = IntKind.u32.wrap ((1 : Int) * (2 : Int) ^ min i.toNat IntKind.u32.bits)) →
    ((0 : Int) ≤ n1 ∧ n1 ≤ (4294967295 : Int)) →
    (k (AV.int IntKind.u32 n1) [] [])) := by
  refine br_intro (fun c1 => ?_) (fun c1 => ?_) -- bif decide (i < (0 : Int)) then true else decide (i > (31 : Int))
  · -- yes
    simp at c1 -- i < (0 : Int) ∨ (31 : Int) < i
    -- k (AV.int IntKind.u32 (0 : Int)) [] []
    exact hk 0 (by rw [bitV_out (by omega)]) (by omega)
  · -- no
    simp at c1 -- (0 : Int) ≤ i ∧ i ≤ (31 : Int)
    refine ⟨by first | omega | (dsimp only; omega), ?_⟩ -- (0 : Int) ≤ i
    intro n1
    intro q1 -- n1 = IntKind.u32.wrap ((1 : Int) * (2 : Int) ^ min i.toNat IntKind.u32.bits)
    rw [IntKind.wrap_u32] at q1
    intro ⟨l1, u1⟩ -- (0 : Int) ≤ n1 ∧ n1 ≤ (4294967295 : Int)
    -- k (AV.int IntKind.u32 n1) [] []
    have e : n1 = bitV i := by rw [q1, shl_one (by omega)]
    exact hk n1 e (by rw [e]; exact bitV_bd i)

theorem bit_ok : Holds Tryd.prog 23 bitS := by
  refine fn_sound (env := mkEnv T0) (tab_ok T0_ok) Tryd.func23 Tryd.call23 fun args k h => ?_
  match args, h with
  | [.int .i64 i], h => exact ⟨by kernel_rfl, fun _ _ => none, fun _ _ => none, .cast (by kernel_rfl) (bit_vc i h.1.1 h.1.2 k h.2)⟩
theorem T1_ok : TabOk Tryd.prog T1 := ⟨bit_ok, trivial⟩
set_option maxHeartbeats 2000000 in
theorem rhas_vc (s : Int) (s0 : (0 : Int) ≤ s) (s1 : s ≤ (4294967295 : Int)) (i : Int) (i0 : (-9223372036854775808 : Int) ≤ i) (i1 : i ≤ (9223372036854775807 : Int)) (k : AV → List (Option Blk) → List Blk → Prop) (hk : k (AV.bool (hasB s i)) [] []) :
  ∀ (n1 : Int),
  (n1 = IntKind.u64.wrap i) →
  (
   ((bif decide (i ≥ (0 : Int)) then decide (i < (32 : Int)) else false) = true) →
   ((0 : Int) ≤ n1)) ∧
  ∀ (n4 : Int),
  (n4 = s.fdiv ((2 : Int) ^ min n1.toNat IntKind.u32.bits)) →
  (
   ((bif decide (i ≥ (0 : Int)) then decide (i < (32 : Int)) else false) = true) →
   ((2 : Int) ≠ (0 : Int))) ∧
  ∀ (n6 : Int),
  (n6 = n4.tmod (2 : Int)) →
  (k (AV.bool (bif bif decide (i ≥ (0 : Int)) then decide (i < (32 : Int)) else false then n6 == (1 : Int) else false)) [] []) := by
  intro n1
  intro q1 -- n1 = IntKind.u64.wrap i
  rw [IntKind.wrap_u64] at q1
  refine ⟨?_, ?_⟩
  · -- left
    intro q1 -- (bif decide (i ≥ (0 : Int)) then decide (i < (32 : Int)) else false) = true
    simp at q1 -- (0 : Int) ≤ i ∧ i < (32 : Int)
    exact by omega -- (0 : Int) ≤ n1
  intro n4
  intro q4 -- n4 = s.fdiv ((2 : Int) ^ min n1.toNat IntKind.u32.bits)
  refine ⟨?_, ?_⟩
  · -- left
    intro q4 -- (bif decide (i ≥ (0 : Int)) then decide (i < (32 : Int)) else false) = true
    simp at q4 -- (0 : Int) ≤ i ∧ i < (32 : Int)
    exact by omega -- (2 : Int) ≠ (0 : Int)
  intro n6
  intro q6 -- n6 = n4.tmod (2 : Int)
  -- k (AV.bool (bif bif decide (i ≥ (0 : Int)) then decide (i < (32 : Int)) else false then n6 == (1 : Int) else false)) [] []
  rw [rhas_eq s0 ⟨i0, i1⟩ q1 q4 q6]; exact hk

theorem rhas_ok : Holds Tryd.prog 7 hasS := by
  refine fn_sound (env := mkEnv T0) (tab_ok T0_ok) Tryd.func7 Tryd.call7 fun args k h => ?_
  match args, h with
  | [.int .u32 s, .int .i64 i], h => exact ⟨by kernel_rfl, fun _ _ => none, fun _ _ => none, .cast (by kernel_rfl) (rhas_vc s h.1.1 h.1.2 i h.2.1.1 h.2.1.2 k h.2.2)⟩
theorem T2_ok : TabOk Tryd.prog T2 := ⟨rhas_ok, trivial⟩
set_option maxHeartbeats 2000000 in
theorem has_vc (s : Int) (s0 : (0 : Int) ≤ s) (s1 : s ≤ (4294967295 : Int)) (i : Int) (i0 : (-9223372036854775808 : Int) ≤ i) (i1 : i ≤ (9223372036854775807 : Int)) (k : AV → List (Option Blk) → List Blk → Prop) (hk : k (AV.bool (hasB s i)) [] []) :
  (
   ((-9223372036854775808 : Int) ≤ i) ∧
   (i ≤ (9223372036854775807 : Int))) ∧
  ∀ (r_1 : Int),
  (r_1 = bitV i) →
  ((0 : Int) ≤ r_1 ∧ r_1 ≤ (2147483648 : Int)) →
  ∀ (n4 : Int),
  (n4 = bits BinOp.and IntKind.u32 s r_1) →
  ((0 : Int) ≤ n4 ∧ n4 ≤ (4294967295 : Int)) →
  (k (AV.bool (n4 != (0 : Int))) [] []) := by
  refine ⟨by exact ⟨by assumption, by assumption⟩, ?_⟩ -- (-9223372036854775808 : Int) ≤ i ∧ i ≤ (9223372036854775807 : Int)
  intro r_1
  intro h1 -- r_1 = bitV i
  intro ⟨a2, b2⟩ -- (0 : Int) ≤ r_1 ∧ r_1 ≤ (2147483648 : Int)
  intro n4
  intro q4 -- n4 = bits BinOp.and IntKind.u32 s r_1
  intro ⟨l4, u4⟩ -- (0 : Int) ≤ n4 ∧ n4 ≤ (4294967295 : Int)
  -- k (AV.bool (n4 != (0 : Int))) [] []
  rw [q4, h1, has_ne i ⟨s0, s1⟩]; exact hk

theorem has_ok : Holds Tryd.prog 6 hasS := by
  refine fn_sound (env := mkEnv T1) (tab_ok T1_ok) Tryd.func6 Tryd.call6 fun args k h => ?_
  match args, h with
  | [.int .u32 s, .int .i64 i], h => exact ⟨by kernel_rfl, fun _ _ => none, fun _ _ => none, .cast (by kernel_rfl) (has_vc s h.1.1 h.1.2 i h.2.1.1 h.2.1.2 k h.2.2)⟩
set_option maxHeartbeats 2000000 in
theorem wth_vc (s : Int) (s0 : (0 : Int) ≤ s) (s1 : s ≤ (4294967295 : Int)) (i : Int) (i0 : (-9223372036854775808 : Int) ≤ i) (i1 : i ≤ (9223372036854775807 : Int)) (k : AV → List (Option Blk) → List Blk → Prop) (hk : ∀ (r : Int), r = withV s i → (0 : Int) ≤ r ∧ r ≤ (4294967295 : Int) → k (AV.int IntKind.u32 r) [] []) :
  (
   ((-9223372036854775808 : Int) ≤ i) ∧
   (i ≤ (9223372036854775807 : Int))) ∧
  ∀ (r_1 : Int),
  (r_1 = bitV i) →
  ((0 : Int) ≤ r_1 ∧ r_1 ≤ (2147483648 : Int)) →
  ∀ (n4 : Int),
  (n4 = bits BinOp.or IntKind.u32 s r_1) →
  ((0 : Int) ≤ n4 ∧ n4 ≤ (4294967295 : Int)) →
  (k (AV.int IntKind.u32 n4) [] []) := by
  refine ⟨by exact ⟨by assumption, by assumption⟩, ?_⟩ -- (-9223372036854775808 : Int) ≤ i ∧ i ≤ (9223372036854775807 : Int)
  intro r_1
  intro h1 -- r_1 = bitV i
  intro ⟨a2, b2⟩ -- (0 : Int) ≤ r_1 ∧ r_1 ≤ (2147483648 : Int)
  intro n4
  intro q4 -- n4 = bits BinOp.or IntKind.u32 s r_1
  intro ⟨l4, u4⟩ -- (0 : Int) ≤ n4 ∧ n4 ≤ (4294967295 : Int)
  -- k (AV.int IntKind.u32 n4) [] []
  have e : n4 = withV s i := by rw [q4, h1, or_bit i ⟨s0, s1⟩]
  exact hk n4 e ⟨l4, u4⟩

theorem wth_ok : Holds Tryd.prog 8 withS := by
  refine fn_sound (env := mkEnv T1) (tab_ok T1_ok) Tryd.func8 Tryd.call8 fun args k h => ?_
  match args, h with
  | [.int .u32 s, .int .i64 i], h => exact ⟨by kernel_rfl, fun _ _ => none, fun _ _ => none, .cast (by kernel_rfl) (wth_vc s h.1.1 h.1.2 i h.2.1.1 h.2.1.2 k h.2.2)⟩
set_option maxHeartbeats 2000000 in
theorem rwth_vc (s : Int) (s0 : (0 : Int) ≤ s) (s1 : s ≤ (4294967295 : Int)) (i : Int) (i0 : (-9223372036854775808 : Int) ≤ i) (i1 : i ≤ (9223372036854775807 : Int)) (k : AV → List (Option Blk) → List Blk → Prop) (hk : ∀ (r : Int), r = withV s i → (0 : Int) ≤ r ∧ r ≤ (4294967295 : Int) → k (AV.int IntKind.u32 r) [] []) :
  br (bif decide (i < (0 : Int)) then true else decide (i > (31 : Int)))
   ((true = true) ∧
    (k (AV.int IntKind.u32 s) [] []))
   ((
     ((0 : Int) ≤ s) ∧
     (s ≤ (4294967295 : Int))) ∧
    (
     ((-9223372036854775808 : Int) ≤ i) ∧
     (i ≤ (9223372036854775807 : Int))) ∧
    br (bif false then true else hasB s i)
     ((k (AV.int IntKind.u32 s) [] []))
     (∀ (n1 : Int),
      (n1 = IntKind.u64.wrap i) →
      ((0 : Int) ≤ n1 ∧ n1 ≤ (18446744073709551615 : Int)) →
      ((0 : Int) ≤ n1) ∧
      ∀ (n4 : Int),
      (n4 = IntKind.u32.wrap ((1 : Int) * (2 : Int) ^ min n1.toNat IntKind.u32.bits)) →
      ((0 : Int) ≤ n4 ∧ n4 ≤ (4294967295 : Int)) →
      ∀ (n7 : Int),
      (n7 = IntKind.u32.wrap (s + n4)) →
      ((0 : Int) ≤ n7 ∧ n7 ≤ (4294967295 : Int)) →
      (k (AV.int IntKind.u32 n7) [] []))) := by
  refine br_intro (fun c1 => ?_) (fun c1 => ?_) -- bif decide (i < (0 : Int)) then true else decide (i > (31 : Int))
  · -- yes
    simp at c1 -- i < (0 : Int) ∨ (31 : Int) < i
    refine ⟨by with_reducible rfl, ?_⟩ -- true = true
    -- k (AV.int IntKind.u32 s) [] []
    exact hk s (by unfold withV; rw [if_neg (by omega)]) ⟨s0, s1⟩
  · -- no
    simp at c1 -- (0 : Int) ≤ i ∧ i ≤ (31 : Int)
    refine ⟨by exact ⟨by assumption, by assumption⟩, ?_⟩ -- (0 : Int) ≤ s ∧ s ≤ (4294967295 : Int)
    refine ⟨by exact ⟨by assumption, by assumption⟩, ?_⟩ -- (-9223372036854775808 : Int) ≤ i ∧ i ≤ (9223372036854775807 : Int)
    refine br_intro (fun c2 => ?_) (fun c2 => ?_) -- bif false then true else hasB s i
    · -- yes
      -- k (AV.int IntKind.u32 s) [] []
      exact hk s (with_has s0 c2).symm ⟨s0, s1⟩
    · -- no
      intro n1
      intro q1 -- n1 = IntKind.u64.wrap i
      rw [IntKind.wrap_u64] at q1
      intro ⟨l1, u1⟩ -- (0 : Int) ≤ n1 ∧ n1 ≤ (18446744073709551615 : Int)
      refine ⟨by assumption, ?_⟩ -- (0 : Int) ≤ n1
      intro n4
      intro q4 -- n4 = IntKind.u32.wrap ((1 : Int) * (2 : Int) ^ min n1.toNat IntKind.u32.bits)
      rw [IntKind.wrap_u32] at q4
      intro ⟨l4, u4⟩ -- (0 : Int) ≤ n4 ∧ n4 ≤ (4294967295 : Int)
      intro n7
      intro q7 -- n7 = IntKind.u32.wrap (s + n4)
      rw [IntKind.wrap_u32] at q7
      intro ⟨l7, u7⟩ -- (0 : Int) ≤ n7 ∧ n7 ≤ (4294967295 : Int)
      -- k (AV.int IntKind.u32 n7) [] []
      have c2 : hasB s i = false := by simpa using c2
      have e1 : n1 = i := by omega
      rw [e1, shl_one (by omega)] at q4
      have e := with_add ⟨s0, s1⟩ (⟨by omega, by omega⟩ : 0 ≤ i ∧ i ≤ 31) c2
      rw [← bitV_pow (⟨by omega, by omega⟩ : 0 ≤ i ∧ i ≤ 31), ← q4] at e
      have hb := withV_bd i ⟨s0, s1⟩
      have e7 : n7 = withV s i := by omega
      exact hk n7 e7 ⟨l7, u7⟩

theorem rwth_ok : Holds Tryd.prog 9 withS := by
  refine fn_sound (env := mkEnv T2) (tab_ok T2_ok) Tryd.func9 Tryd.call9 fun args k h => ?_
  match args, h with
  | [.int .u32 s, .int .i64 i], h => exact ⟨by kernel_rfl, fun _ _ => none, fun _ _ => none, .cast (by kernel_rfl) (rwth_vc s h.1.1 h.1.2 i h.2.1.1 h.2.1.2 k h.2.2)⟩
set_option maxHeartbeats 2000000 in
theorem wo_vc (s : Int) (s0 : (0 : Int) ≤ s) (s1 : s ≤ (4294967295 : Int)) (i : Int) (i0 : (-9223372036854775808 : Int) ≤ i) (i1 : i ≤ (9223372036854775807 : Int)) (k : AV → List (Option Blk) → List Blk → Prop) (hk : ∀ (r : Int), r = woV s i → (0 : Int) ≤ r ∧ r ≤ (4294967295 : Int) → k (AV.int IntKind.u32 r) [] []) :
  (
   ((-9223372036854775808 : Int) ≤ i) ∧
   (i ≤ (9223372036854775807 : Int))) ∧
  ∀ (r_1 : Int),
  (r_1 = bitV i) →
  ((0 : Int) ≤ r_1 ∧ r_1 ≤ (2147483648 : Int)) →
  ∀ (n4 : Int),
  (n4 = bits BinOp.andNot IntKind.u32 s r_1) →
  ((0 : Int) ≤ n4 ∧ n4 ≤ (4294967295 : Int)) →
  (k (AV.int IntKind.u32 n4) [] []) := by
  refine ⟨by exact ⟨by assumption, by assumption⟩, ?_⟩ -- (-9223372036854775808 : Int) ≤ i ∧ i ≤ (9223372036854775807 : Int)
  intro r_1
  intro h1 -- r_1 = bitV i
  intro ⟨a2, b2⟩ -- (0 : Int) ≤ r_1 ∧ r_1 ≤ (2147483648 : Int)
  intro n4
  intro q4 -- n4 = bits BinOp.andNot IntKind.u32 s r_1
  intro ⟨l4, u4⟩ -- (0 : Int) ≤ n4 ∧ n4 ≤ (4294967295 : Int)
  -- k (AV.int IntKind.u32 n4) [] []
  have e : n4 = woV s i := by rw [q4, h1, not_bit i ⟨s0, s1⟩]
  exact hk n4 e ⟨l4, u4⟩

theorem wo_ok : Holds Tryd.prog 10 woS := by
  refine fn_sound (env := mkEnv T1) (tab_ok T1_ok) Tryd.func10 Tryd.call10 fun args k h => ?_
  match args, h with
  | [.int .u32 s, .int .i64 i], h => exact ⟨by kernel_rfl, fun _ _ => none, fun _ _ => none, .cast (by kernel_rfl) (wo_vc s h.1.1 h.1.2 i h.2.1.1 h.2.1.2 k h.2.2)⟩
set_option maxHeartbeats 2000000 in
theorem rwo_vc (s : Int) (s0 : (0 : Int) ≤ s) (s1 : s ≤ (4294967295 : Int)) (i : Int) (i0 : (-9223372036854775808 : Int) ≤ i) (i1 : i ≤ (9223372036854775807 : Int)) (k : AV → List (Option Blk) → List Blk → Prop) (hk : ∀ (r : Int), r = woV s i → (0 : Int) ≤ r ∧ r ≤ (4294967295 : Int) → k (AV.int IntKind.u32 r) [] []) :
  (
   ((0 : Int) ≤ s) ∧
   (s ≤ (4294967295 : Int))) ∧
  (
   ((-9223372036854775808 : Int) ≤ i) ∧
   (i ≤ (9223372036854775807 : Int))) ∧
  br (!hasB s i)
   ((k (AV.int IntKind.u32 s) [] []))
   (∀ (n1 : Int),
    (n1 = IntKind.u64.wrap i) →
    ((0 : Int) ≤ n1 ∧ n1 ≤ (18446744073709551615 : Int)) →
    ((0 : Int) ≤ n1) ∧
    ∀ (n4 : Int),
    (n4 = IntKind.u32.wrap ((1 : Int) * (2 : Int) ^ min n1.toNat IntKind.u32.bits)) →
    ((0 : Int) ≤ n4 ∧ n4 ≤ (4294967295 : Int)) →
    ∀ (n7 : Int),
    (n7 = IntKind.u32.wrap (s - n4)) →
    ((0 : Int) ≤ n7 ∧ n7 ≤ (4294967295 : Int)) →
    (k (AV.int IntKind.u32 n7) [] [])) := by
  refine ⟨by exact ⟨by assumption, by assumption⟩, ?_⟩ -- (0 : Int) ≤ s ∧ s ≤ (4294967295 : Int)
  refine ⟨by exact ⟨by assumption, by assumption⟩, ?_⟩ -- (-9223372036854775808 : Int) ≤ i ∧ i ≤ (9223372036854775807 : Int)
  refine br_intro (fun c1 => ?_) (fun c1 => ?_) -- !hasB s i
  · -- yes
    simp at c1 -- hasB s i = false
    -- k (AV.int IntKind.u32 s) [] []
    exact hk s (wo_not ⟨s0, s1⟩ c1).symm ⟨s0, s1⟩
  · -- no
    simp at c1 -- hasB s i = true
    intro n1
    intro q1 -- n1 = IntKind.u64.wrap i
    rw [IntKind.wrap_u64] at q1
    intro ⟨l1, u1⟩ -- (0 : Int) ≤ n1 ∧ n1 ≤ (18446744073709551615 : Int)
    refine ⟨by assumption, ?_⟩ -- (0 : Int) ≤ n1
    intro n4
    intro q4 -- n4 = IntKind.u32.wrap ((1 : Int) * (2 : Int) ^ min n1.toNat IntKind.u32.bits)
    rw [IntKind.wrap_u32] at q4
    intro ⟨l4, u4⟩ -- (0 : Int) ≤ n4 ∧ n4 ≤ (4294967295 : Int)
    intro n7
    intro q7 -- n7 = IntKind.u32.wrap (s - n4)
    rw [IntKind.wrap_u32] at q7
    intro ⟨l7, u7⟩ -- (0 : Int) ≤ n7 ∧ n7 ≤ (4294967295 : Int)
    -- k (AV.int IntKind.u32 n7) [] []
    have hi : 0 ≤ i ∧ i ≤ 31 := by
      rcases Decidable.em (0 ≤ i ∧ i ≤ 31) with h | h
      · exact h
      · rw [has_out h] at c1; cases c1
    have e1 : n1 = i := by omega
    rw [e1, shl_one hi] at q4
    have e := wo_sub s0 c1
    rw [← bitV_pow hi, ← q4] at e
    have hb := woV_bd i ⟨s0, s1⟩
    have e7 : n7 = woV s i := by omega
    exact hk n7 e7 ⟨l7, u7⟩

theorem rwo_ok : Holds Tryd.prog 11 woS := by
  refine fn_sound (env := mkEnv T2) (tab_ok T2_ok) Tryd.func11 Tryd.call11 fun args k h => ?_
  match args, h with
  | [.int .u32 s, .int .i64 i], h => exact ⟨by kernel_rfl, fun _ _ => none, fun _ _ => none, .cast (by kernel_rfl) (rwo_vc s h.1.1 h.1.2 i h.2.1.1 h.2.1.2 k h.2.2)⟩
set_option maxHeartbeats 2000000 in
theorem ones_vc (s : Int) (s0 : (0 : Int) ≤ s) (s1 : s ≤ (4294967295 : Int)) (k : AV → List (Option Blk) → List Blk → Prop) (hk : ∀ (r : Int), r = cnt (32 : Nat) s → (0 : Int) ≤ r ∧ r ≤ (32 : Int) → k (AV.int IntKind.i64 r) [] []) :
  ((0 : Int) ≤ (24 : Int)) ∧
  ∀ (n1 : Int),
  (n1 = s.fdiv ((2 : Int) ^ min (Int.toNat (24 : Int)) IntKind.u32.bits)) →
  ((0 : Int) ≤ n1 ∧ n1 ≤ (4294967295 : Int)) →
  ((0 : Int) ≤ n1) ∧
  (n1 < (↑{ data := (([(0 : UInt8), (1 : UInt8), (1 : UInt8), (2 : UInt8), (1 : UInt8), (2 : UInt8), (2 : UInt8), (3 : UInt8), (1 : UInt8), (2 : UInt8), (2 : UInt8), (3 : UInt8), (2 : UInt8), (3 : UInt8), (3 : UInt8), (4 : UInt8), (1 : UInt8), (2 : UInt8), (2 : UInt8), (3 : UInt8), (2 : UInt8), (3 : UInt8), (3 : UInt8), (4 : UInt8), (2 : UInt8), (3 : UInt8), (3 : UInt8), (4 : UInt8), (3 : UInt8), (4 : UInt8), (4 : UInt8), (5 : UInt8), (1 : UInt8), (2 : UInt8), (2 : UInt8), (3 : UInt8), (2 : UInt8), (3 : UInt8), (3 : UInt8), (4 : UInt8), (2 : UInt8), (3 : UInt8), (3 : UInt8), (4 : UInt8), (3 : UInt8), (4 : UInt8), (4 : UInt8), (5 : UInt8), (2 : UInt8), (3 : UInt8), (3 : UInt8), (4 : UInt8), (3 : UInt8), (4 : UInt8), (4 : UInt8), (5 : UInt8), (3 : UInt8), (4 : UInt8), (4 : UInt8), (5 : UInt8), (4 : UInt8), (5 : UInt8), (5 : UInt8), (6 : UInt8)].append [(1 : UInt8), (2 : UInt8), (2 : UInt8), (3 : UInt8), (2 : UInt8), (3 : UInt8), (3 : UInt8), (4 : UInt8), (2 : UInt8), (3 : UInt8), (3 : UInt8), (4 : UInt8), (3 : UInt8), (4 : UInt8), (4 : UInt8), (5 : UInt8), (2 : UInt8), (3 : UInt8), (3 : UInt8), (4 : UInt8), (3 : UInt8), (4 : UInt8), (4 : UInt8), (5 : UInt8), (3 : UInt8), (4 : UInt8), (4 : UInt8), (5 : UInt8), (4 : UInt8), (5 : UInt8), (5 : UInt8), (6 : UInt8), (2 : UInt8), (3 : UInt8), (3 : UInt8), (4 : UInt8), (3 : UInt8), (4 : UInt8), (4 : UInt8), (5 : UInt8), (3 : UInt8), (4 : UInt8), (4 : UInt8), (5 : UInt8), (4 : UInt8), (5 : UInt8), (5 : UInt8), (6 : UInt8), (3 : UInt8), (4 : UInt8), (4 : UInt8), (5 : UInt8), (4 : UInt8), (5 : UInt8), (5 : UInt8), (6 : UInt8), (4 : UInt8), (5 : UInt8), (5 : UInt8), (6 : UInt8), (5 : UInt8), (6 : UInt8), (6 : UInt8), (7 : UInt8)]).append ([(1 : UInt8), (2 : UInt8), (2 : UInt8), (3 : UInt8), (2 : UInt8), (3 : UInt8), (3 : UInt8), (4 : UInt8), (2 : UInt8), (3 : UInt8), (3 : UInt8), (4 : UInt8), (3 : UInt8), (4 : UInt8), (4 : UInt8), (5 : UInt8), (2 : UInt8), (3 : UInt8), (3 : UInt8), (4 : UInt8), (3 : UInt8), (4 : UInt8), (4 : UInt8), (5 : UInt8), (3 : UInt8), (4 : UInt8), (4 : UInt8), (5 : UInt8), (4 : UInt8), (5 : UInt8), (5 : UInt8), (6 : UInt8), (2 : UInt8), (3 : UInt8), (3 : UInt8), (4 : UInt8), (3 : UInt8), (4 : UInt8), (4 : UInt8), (5 : UInt8), (3 : UInt8), (4 : UInt8), (4 : UInt8), (5 : UInt8), (4 : UInt8), (5 : UInt8), (5 : UInt8), (6 : UInt8), (3 : UInt8), (4 : UInt8), (4 : UInt8), (5 : UInt8), (4 : UInt8), (5 : UInt8), (5 : UInt8), (6 : UInt8), (4 : UInt8), (5 : UInt8), (5 : UInt8), (6 : UInt8), (5 : UInt8), (6 : UInt8), (6 : UInt8), (7 : UInt8)].append [(2 : UInt8), (3 : UInt8), (3 : UInt8), (4 : UInt8), (3 : UInt8), (4 : UInt8), (4 : UInt8), (5 : UInt8), (3 : UInt8), (4 : UInt8), (4 : UInt8), (5 : UInt8), (4 : UInt8), (5 : UInt8), (5 : UInt8), (6 : UInt8), (3 : UInt8), (4 : UInt8), (4 : UInt8), (5 : UInt8), (4 : UInt8), (5 : UInt8), (5 : UInt8), (6 : UInt8), (4 : UInt8), (5 : UInt8), (5 : UInt8), (6 : UInt8), (5 : UInt8), (6 : UInt8), (6 : UInt8), (7 : UInt8), (3 : UInt8), (4 : UInt8), (4 : UInt8), (5 : UInt8), (4 : UInt8), (5 : UInt8), (5 : UInt8), (6 : UInt8), (4 : UInt8), (5 : UInt8), (5 : UInt8), (6 : UInt8), (5 : UInt8), (6 : UInt8), (6 : UInt8), (7 : UInt8), (4 : UInt8), (5 : UInt8), (5 : UInt8), (6 : UInt8), (5 : UInt8), (6 : UInt8), (6 : UInt8), (7 : UInt8), (5 : UInt8), (6 : UInt8), (6 : UInt8), (7 : UInt8), (6 : UInt8), (7 : UInt8), (7 : UInt8), (8 : UInt8)])).toArray : ByteArray }.size : Int)) ∧
  ∀ (n4 : Int),
  (n4 = strAt { data := (([(0 : UInt8), (1 : UInt8), (1 : UInt8), (2 : UInt8), (1 : UInt8), (2 : UInt8), (2 : UInt8), (3 : UInt8), (1 : UInt8), (2 : UInt8), (2 : UInt8), (3 : UInt8), (2 : UInt8), (3 : UInt8), (3 : UInt8), (4 : UInt8), (1 : UInt8), (2 : UInt8), (2 : UInt8), (3 : UInt8), (2 : UInt8), (3 : UInt8), (3 : UInt8), (4 : UInt8), (2 : UInt8), (3 : UInt8), (3 : UInt8), (4 : UInt8), (3 : UInt8), (4 : UInt8), (4 : UInt8), (5 : UInt8), (1 : UInt8), (2 : UInt8), (2 : UInt8), (3 : UInt8), (2 : UInt8), (3 : UInt8), (3 : UInt8), (4 : UInt8), (2 : UInt8), (3 : UInt8), (3 : UInt8), (4 : UInt8), (3 : UInt8), (4 : UInt8), (4 : UInt8), (5 : UInt8), (2 : UInt8), (3 : UInt8), (3 : UInt8), (4 : UInt8), (3 : UInt8), (4 : UInt8), (4 : UInt8), (5 : UInt8), (3 : UInt8), (4 : UInt8), (4 : UInt8), (5 : UInt8), (4 : UInt8), (5 : UInt8), (5 : UInt8), (6 : UInt8)].append [(1 : UInt8), (2 : UInt8), (2 : UInt8), (3 : UInt8), (2 : UInt8), (3 : UInt8), (3 : UInt8), (4 : UInt8), (2 : UInt8), (3 : UInt8), (3 : UInt8), (4 : UInt8), (3 : UInt8), (4 : UInt8), (4 : UInt8), (5 : UInt8), (2 : UInt8), (3 : UInt8), (3 : UInt8), (4 : UInt8), (3 : UInt8), (4 : UInt8), (4 : UInt8), (5 : UInt8), (3 : UInt8), (4 : UInt8), (4 : UInt8), (5 : UInt8), (4 : UInt8), (5 : UInt8), (5 : UInt8), (6 : UInt8), (2 : UInt8), (3 : UInt8), (3 : UInt8), (4 : UInt8), (3 : UInt8), (4 : UInt8), (4 : UInt8), (5 : UInt8), (3 : UInt8), (4 : UInt8), (4 : UInt8), (5 : UInt8), (4 : UInt8), (5 : UInt8), (5 : UInt8), (6 : UInt8), (3 : UInt8), (4 : UInt8), (4 : UInt8), (5 : UInt8), (4 : UInt8), (5 : UInt8), (5 : UInt8), (6 : UInt8), (4 : UInt8), (5 : UInt8), (5 : UInt8), (6 : UInt8), (5 : UInt8), (6 : UInt8), (6 : UInt8), (7 : UInt8)]).append ([(1 : UInt8), (2 : UInt8), (2 : UInt8), (3 : UInt8), (2 : UInt8), (3 : UInt8), (3 : UInt8), (4 : UInt8), (2 : UInt8), (3 : UInt8), (3 : UInt8), (4 : UInt8), (3 : UInt8), (4 : UInt8), (4 : UInt8), (5 : UInt8), (2 : UInt8), (3 : UInt8), (3 : UInt8), (4 : UInt8), (3 : UInt8), (4 : UInt8), (4 : UInt8), (5 : UInt8), (3 : UInt8), (4 : UInt8), (4 : UInt8), (5 : UInt8), (4 : UInt8), (5 : UInt8), (5 : UInt8), (6 : UInt8), (2 : UInt8), (3 : UInt8), (3 : UInt8), (4 : UInt8), (3 : UInt8), (4 : UInt8), (4 : UInt8), (5 : UInt8), (3 : UInt8), (4 : UInt8), (4 : UInt8), (5 : UInt8), (4 : UInt8), (5 : UInt8), (5 : UInt8), (6 : UInt8), (3 : UInt8), (4 : UInt8), (4 : UInt8), (5 : UInt8), (4 : UInt8), (5 : UInt8), (5 : UInt8), (6 : UInt8), (4 : UInt8), (5 : UInt8), (5 : UInt8), (6 : UInt8), (5 : UInt8), (6 : UInt8), (6 : UInt8), (7 : UInt8)].append [(2 : UInt8), (3 : UInt8), (3 : UInt8), (4 : UInt8), (3 : UInt8), (4 : UInt8), (4 : UInt8), (5 : UInt8), (3 : UInt8), (4 : UInt8), (4 : UInt8), (5 : UInt8), (4 : UInt8), (5 : UInt8), (5 : UInt8), (6 : UInt8), (3 : UInt8), (4 : UInt8), (4 : UInt8), (5 : UInt8), (4 : UInt8), (5 : UInt8), (5 : UInt8), (6 : UInt8), (4 : UInt8), (5 : UInt8), (5 : UInt8), (6 : UInt8), (5 : UInt8), (6 : UInt8), (6 : UInt8), (7 : UInt8), (3 : UInt8), (4 : UInt8), (4 : UInt8), (5 : UInt8), (4 : UInt8), (5 : UInt8), (5 : UInt8), (6 : UInt8), (4 : UInt8), (5 : UInt8), (5 : UInt8), (6 : UInt8), (5 : UInt8), (6 : UInt8), (6 : UInt8), (7 : UInt8), (4 : UInt8), (5 : UInt8), (5 : UInt8), (6 : UInt8), (5 : UInt8), (6 : UInt8), (6 : UInt8), (7 : UInt8), (5 : UInt8), (6 : UInt8), (6 : UInt8), (7 : UInt8), (6 : UInt8), (7 : UInt8), (7 : UInt8), (8 : UInt8)])).toArray : ByteArray } n1) →
  ((0 : Int) ≤ n4 ∧ n4 ≤ (255 : Int)) →
  ((0 : Int) ≤ (16 : Int)) ∧
  ∀ (n7 : Int),
  (n7 = s.fdiv ((2 : Int) ^ min (Int.toNat (16 : Int)) IntKind.u32.bits)) →
  ((0 : Int) ≤ n7 ∧ n7 ≤ (4294967295 : Int)) →
  ∀ (n10 : Int),
  (n10 = bits BinOp.and IntKind.u32 n7 (255 : Int)) →
  ((0 : Int) ≤ n10 ∧ n10 ≤ (4294967295 : Int)) →
  ((0 : Int) ≤ n10) ∧
  (n10 < (↑{ data := (([(0 : UInt8), (1 : UInt8), (1 : UInt8), (2 : UInt8), (1 : UInt8), (2 : UInt8), (2 : UInt8), (3 : UInt8), (1 : UInt8), (2 : UInt8), (2 : UInt8), (3 : UInt8), (2 : UInt8), (3 : UInt8), (3 : UInt8), (4 : UInt8), (1 : UInt8), (2 : UInt8), (2 : UInt8), (3 : UInt8), (2 : UInt8), (3 : UInt8), (3 : UInt8), (4 : UInt8), (2 : UInt8), (3 : UInt8), (3 : UInt8), (4 : UInt8), (3 : UInt8), (4 : UInt8), (4 : UInt8), (5 : UInt8), (1 : UInt8), (2 : UInt8), (2 : UInt8), (3 : UInt8), (2 : UInt8), (3 : UInt8), (3 : UInt8), (4 : UInt8), (2 : UInt8), (3 : UInt8), (3 : UInt8), (4 : UInt8), (3 : UInt8), (4 : UInt8), (4 : UInt8), (5 : UInt8), (2 : UInt8), (3 : UInt8), (3 : UInt8), (4 : UInt8), (3 : UInt8), (4 : UInt8), (4 : UInt8), (5 : UInt8), (3 : UInt8), (4 : UInt8), (4 : UInt8), (5 : UInt8), (4 : UInt8), (5 : UInt8), (5 : UInt8), (6 : UInt8)].append [(1 : UInt8), (2 : UInt8), (2 : UInt8), (3 : UInt8), (2 : UInt8), (3 : UInt8), (3 : UInt8), (4 : UInt8), (2 : UInt8), (3 : UInt8), (3 : UInt8), (4 : UInt8), (3 : UInt8), (4 : UInt8), (4 : UInt8), (5 : UInt8), (2 : UInt8), (3 : UInt8), (3 : UInt8), (4 : UInt8), (3 : UInt8), (4 : UInt8), (4 : UInt8), (5 : UInt8), (3 : UInt8), (4 : UInt8), (4 : UInt8), (5 : UInt8), (4 : UInt8), (5 : UInt8), (5 : UInt8), (6 : UInt8), (2 : UInt8), (3 : UInt8), (3 : UInt8), (4 : UInt8), (3 : UInt8), (4 : UInt8), (4 : UInt8), (5 : UInt8), (3 : UInt8), (4 : UInt8), (4 : UInt8), (5 : UInt8), (4 : UInt8), (5 : UInt8), (5 : UInt8), (6 : UInt8), (3 : UInt8), (4 : UInt8), (4 : UInt8), (5 : UInt8), (4 : UInt8), (5 : UInt8), (5 : UInt8), (6 : UInt8), (4 : UInt8), (5 : UInt8), (5 : UInt8), (6 : UInt8), (5 : UInt8), (6 : UInt8), (6 : UInt8), (7 : UInt8)]).append ([(1 : UInt8), (2 : UInt8), (2 : UInt8), (3 : UInt8), (2 : UInt8), (3 : UInt8), (3 : UInt8), (4 : UInt8), (2 : UInt8), (3 : UInt8), (3 : UInt8), (4 : UInt8), (3 : UInt8), (4 : UInt8), (4 : UInt8), (5 : UInt8), (2 : UInt8), (3 : UInt8), (3 : UInt8), (4 : UInt8), (3 : UInt8), (4 : UInt8), (4 : UInt8), (5 : UInt8), (3 : UInt8), (4 : UInt8), (4 : UInt8), (5 : UInt8), (4 : UInt8), (5 : UInt8), (5 : UInt8), (6 : UInt8), (2 : UInt8), (3 : UInt8), (3 : UInt8), (4 : UInt8), (3 : UInt8), (4 : UInt8), (4 : UInt8), (5 : UInt8), (3 : UInt8), (4 : UInt8), (4 : UInt8), (5 : UInt8), (4 : UInt8), (5 : UInt8), (5 : UInt8), (6 : UInt8), (3 : UInt8), (4 : UInt8), (4 : UInt8), (5 : UInt8), (4 : UInt8), (5 : UInt8), (5 : UInt8), (6 : UInt8), (4 : UInt8), (5 : UInt8), (5 : UInt8), (6 : UInt8), (5 : UInt8), (6 : UInt8), (6 : UInt8), (7 : UInt8)].append [(2 : UInt8), (3 : UInt8), (3 : UInt8), (4 : UInt8), (3 : UInt8), (4 : UInt8), (4 : UInt8), (5 : UInt8), (3 : UInt8), (4 : UInt8), (4 : UInt8), (5 : UInt8), (4 : UInt8), (5 : UInt8), (5 : UInt8), (6 : UInt8), (3 : UInt8), (4 : UInt8), (4 : UInt8), (5 : UInt8), (4 : UInt8), (5 : UInt8), (5 : UInt8), (6 : UInt8), (4 : UInt8), (5 : UInt8), (5 : UInt8), (6 : UInt8), (5 : UInt8), (6 : UInt8), (6 : UInt8), (7 : UInt8), (3 : UInt8), (4 : UInt8), (4 : UInt8), (5 : UInt8), (4 : UInt8), (5 : UInt8), (5 : UInt8), (6 : UInt8), (4 : UInt8), (5 : UInt8), (5 : UInt8), (6 : UInt8), (5 : UInt8), (6 : UInt8), (6 : UInt8), (7 : UInt8), (4 : UInt8), (5 : UInt8), (5 : UInt8), (6 : UInt8), (5 : UInt8), (6 : UInt8), (6 : UInt8), (7 : UInt8), (5 : UInt8), (6 : UInt8), (6 : UInt8), (7 : UInt8), (6 : UInt8), (7 : UInt8), (7 : UInt8), (8 : UInt8)])).toArray : ByteArray }.size : Int)) ∧
  ∀ (n13 : Int),
  (n13 = strAt { data := (([(0 : UInt8), (1 : UInt8), (1 : UInt8), (2 : UInt8), (1 : UInt8), (2 : UInt8), (2 : UInt8), (3 : UInt8), (1 : UInt8), (2 : UInt8), (2 : UInt8), (3 : UInt8), (2 : UInt8), (3 : UInt8), (3 : UInt8), (4 : UInt8), (1 : UInt8), (2 : UInt8), (2 : UInt8), (3 : UInt8), (2 : UInt8), (3 : UInt8), (3 : UInt8), (4 : UInt8), (2 : UInt8), (3 : UInt8), (3 : UInt8), (4 : UInt8), (3 : UInt8), (4 : UInt8), (4 : UInt8), (5 : UInt8), (1 : UInt8), (2 : UInt8), (2 : UInt8), (3 : UInt8), (2 : UInt8), (3 : UInt8), (3 : UInt8), (4 : UInt8), (2 : UInt8), (3 : UInt8), (3 : UInt8), (4 : UInt8), (3 : UInt8), (4 : UInt8), (4 : UInt8), (5 : UInt8), (2 : UInt8), (3 : UInt8), (3 : UInt8), (4 : UInt8), (3 : UInt8), (4 : UInt8), (4 : UInt8), (5 : UInt8), (3 : UInt8), (4 : UInt8), (4 : UInt8), (5 : UInt8), (4 : UInt8), (5 : UInt8), (5 : UInt8), (6 : UInt8)].append [(1 : UInt8), (2 : UInt8), (2 : UInt8), (3 : UInt8), (2 : UInt8), (3 : UInt8), (3 : UInt8), (4 : UInt8), (2 : UInt8), (3 : UInt8), (3 : UInt8), (4 : UInt8), (3 : UInt8), (4 : UInt8), (4 : UInt8), (5 : UInt8), (2 : UInt8), (3 : UInt8), (3 : UInt8), (4 : UInt8), (3 : UInt8), (4 : UInt8), (4 : UInt8), (5 : UInt8), (3 : UInt8), (4 : UInt8), (4 : UInt8), (5 : UInt8), (4 : UInt8), (5 : UInt8), (5 : UInt8), (6 : UInt8), (2 : UInt8), (3 : UInt8), (3 : UInt8), (4 : UInt8), (3 : UInt8), (4 : UInt8), (4 : UInt8), (5 : UInt8), (3 : UInt8), (4 : UInt8), (4 : UInt8), (5 : UInt8), (4 : UInt8), (5 : UInt8), (5 : UInt8), (6 : UInt8), (3 : UInt8), (4 : UInt8), (4 : UInt8), (5 : UInt8), (4 : UInt8), (5 : UInt8), (5 : UInt8), (6 : UInt8), (4 : UInt8), (5 : UInt8), (5 : UInt8), (6 : UInt8), (5 : UInt8), (6 : UInt8), (6 : UInt8), (7 : UInt8)]).append ([(1 : UInt8), (2 : UInt8), (2 : UInt8), (3 : UInt8), (2 : UInt8), (3 : UInt8), (3 : UInt8), (4 : UInt8), (2 : UInt8), (3 : UInt8), (3 : UInt8), (4 : UInt8), (3 : UInt8), (4 : UInt8), (4 : UInt8), (5 : UInt8), (2 : UInt8), (3 : UInt8), (3 : UInt8), (4 : UInt8), (3 : UInt8), (4 : UInt8), (4 : UInt8), (5 : UInt8), (3 : UInt8), (4 : UInt8), (4 : UInt8), (5 : UInt8), (4 : UInt8), (5 : UInt8), (5 : UInt8), (6 : UInt8), (2 : UInt8), (3 : UInt8), (3 : UInt8), (4 : UInt8), (3 : UInt8), (4 : UInt8), (4 : UInt8), (5 : UInt8), (3 : UInt8), (4 : UInt8), (4 : UInt8), (5 : UInt8), (4 : UInt8), (5 : UInt8), (5 : UInt8), (6 : UInt8), (3 : UInt8), (4 : UInt8), (4 : UInt8), (5 : UInt8), (4 : UInt8), (5 : UInt8), (5 : UInt8), (6 : UInt8), (4 : UInt8), (5 : UInt8), (5 : UInt8), (6 : UInt8), (5 : UInt8), (6 : UInt8), (6 : UInt8), (7 : UInt8)].append [(2 : UInt8), (3 : UInt8), (3 : UInt8), (4 : UInt8), (3 : UInt8), (4 : UInt8), (4 : UInt8), (5 : UInt8), (3 : UInt8), (4 : UInt8), (4 : UInt8), (5 : UInt8), (4 : UInt8), (5 : UInt8), (5 : UInt8), (6 : UInt8), (3 : UInt8), (4 : UInt8), (4 : UInt8), (5 : UInt8), (4 : UInt8), (5 : UInt8), (5 : UInt8), (6 : UInt8), (4 : UInt8), (5 : UInt8), (5 : UInt8), (6 : UInt8), (5 : UInt8), (6 : UInt8), (6 : UInt8), (7 : UInt8), (3 : UInt8), (4 : UInt8), (4 : UInt8), (5 : UInt8), (4 : UInt8), (5 : UInt8), (5 : UInt8), (6 : UInt8), (4 : UInt8), (5 : UInt8), (5 : UInt8), (6 : UInt8), (5 : UInt8), (6 : UInt8), (6 : UInt8), (7 : UInt8), (4 : UInt8), (5 : UInt8), (5 : UInt8), (6 : UInt8), (5 : UInt8), (6 : UInt8), (6 : UInt8), (7 : UInt8), (5 : UInt8), (6 : UInt8), (6 : UInt8), (7 : UInt8), (6 : UInt8), (7 : UInt8), (7 : UInt8), (8 : UInt8)])).toArray : ByteArray } n10) →
  ((0 : Int) ≤ n13 ∧ n13 ≤ (255 : Int)) →
  ∀ (n16 : Int),
  (n16 = IntKind.u8.wrap (n4 + n13)) →
  ((0 : Int) ≤ n16 ∧ n16 ≤ (255 : Int)) →
  ((0 : Int) ≤ (8 : Int)) ∧
  ∀ (n19 : Int),
  (n19 = s.fdiv ((2 : Int) ^ min (Int.toNat (8 : Int)) IntKind.u32.bits)) →
  ((0 : Int) ≤ n19 ∧ n19 ≤ (4294967295 : Int)) →
  ∀ (n22 : Int),
  (n22 = bits BinOp.and IntKind.u32 n19 (255 : Int)) →
  ((0 : Int) ≤ n22 ∧ n22 ≤ (4294967295 : Int)) →
  ((0 : Int) ≤ n22) ∧
  (n22 < (↑{ data := (([(0 : UInt8), (1 : UInt8), (1 : UInt8), (2 : UInt8), (1 : UInt8), (2 : UInt8), (2 : UInt8), (3 : UInt8), (1 : UInt8), (2 : UInt8), (2 : UInt8), (3 : UInt8), (2 : UInt8), (3 : UInt8), (3 : UInt8), (4 : UInt8), (1 : UInt8), (2 : UInt8), (2 : UInt8), (3 : UInt8), (2 : UInt8), (3 : UInt8), (3 : UInt8), (4 : UInt8), (2 : UInt8), (3 : UInt8), (3 : UInt8), (4 : UInt8), (3 : UInt8), (4 : UInt8), (4 : UInt8), (5 : UInt8), (1 : UInt8), (2 : UInt8), (2 : UInt8), (3 : UInt8), (2 : UInt8), (3 : UInt8), (3 : UInt8), (4 : UInt8), (2 : UInt8), (3 : UInt8), (3 : UInt8), (4 : UInt8), (3 : UInt8), (4 : UInt8), (4 : UInt8), (5 : UInt8), (2 : UInt8), (3 : UInt8), (3 : UInt8), (4 : UInt8), (3 : UInt8), (4 : UInt8), (4 : UInt8), (5 : UInt8), (3 : UInt8), (4 : UInt8), (4 : UInt8), (5 : UInt8), (4 : UInt8), (5 : UInt8), (5 : UInt8), (6 : UInt8)].append [(1 : UInt8), (2 : UInt8), (2 : UInt8), (3 : UInt8), (2 : UInt8), (3 : UInt8), (3 : UInt8), (4 : UInt8), (2 : UInt8), (3 : UInt8), (3 : UInt8), (4 : UInt8), (3 : UInt8), (4 : UInt8), (4 : UInt8), (5 : UInt8), (2 : UInt8), (3 : UInt8), (3 : UInt8), (4 : UInt8), (3 : UInt8), (4 : UInt8), (4 : UInt8), (5 : UInt8), (3 : UInt8), (4 : UInt8), (4 : UInt8), (5 : UInt8), (4 : UInt8), (5 : UInt8), (5 : UInt8), (6 : UInt8), (2 : UInt8), (3 : UInt8), (3 : UInt8), (4 : UInt8), (3 : UInt8), (4 : UInt8), (4 : UInt8), (5 : UInt8), (3 : UInt8), (4 : UInt8), (4 : UInt8), (5 : UInt8), (4 : UInt8), (5 : UInt8), (5 : UInt8), (6 : UInt8), (3 : UInt8), (4 : UInt8), (4 : UInt8), (5 : UInt8), (4 : UInt8), (5 : UInt8), (5 : UInt8), (6 : UInt8), (4 : UInt8), (5 : UInt8), (5 : UInt8), (6 : UInt8), (5 : UInt8), (6 : UInt8), (6 : UInt8), (7 : UInt8)]).append ([(1 : UInt8), (2 : UInt8), (2 : UInt8), (3 : UInt8), (2 : UInt8), (3 : UInt8), (3 : UInt8), (4 : UInt8), (2 : UInt8), (3 : UInt8), (3 : UInt8), (4 : UInt8), (3 : UInt8), (4 : UInt8), (4 : UInt8), (5 : UInt8), (2 : UInt8), (3 : UInt8), (3 : UInt8), (4 : UInt8), (3 : UInt8), (4 : UInt8), (4 : UInt8), (5 : UInt8), (3 : UInt8), (4 : UInt8), (4 : UInt8), (5 : UInt8), (4 : UInt8), (5 : UInt8), (5 : UInt8), (6 : UInt8), (2 : UInt8), (3 : UInt8), (3 : UInt8), (4 : UInt8), (3 : UInt8), (4 : UInt8), (4 : UInt8), (5 : UInt8), (3 : UInt8), (4 : UInt8), (4 : UInt8), (5 : UInt8), (4 : UInt8), (5 : UInt8), (5 : UInt8), (6 : UInt8), (3 : UInt8), (4 : UInt8), (4 : UInt8), (5 : UInt8), (4 : UInt8), (5 : UInt8), (5 : UInt8), (6 : UInt8), (4 : UInt8), (5 : UInt8), (5 : UInt8), (6 : UInt8), (5 : UInt8), (6 : UInt8), (6 : UInt8), (7 : UInt8)].append [(2 : UInt8), (3 : UInt8), (3 : UInt8), (4 : UInt8), (3 : UInt8), (4 : UInt8), (4 : UInt8), (5 : UInt8), (3 : UInt8), (4 : UInt8), (4 : UInt8), (5 : UInt8), (4 : UInt8), (5 : UInt8), (5 : UInt8), (6 : UInt8), (3 : UInt8), (4 : UInt8), (4 : UInt8), (5 : UInt8), (4 : UInt8), (5 : UInt8), (5 : UInt8), (6 : UInt8), (4 : UInt8), (5 : UInt8), (5 : UInt8), (6 : UInt8), (5 : UInt8), (6 : UInt8), (6 : UInt8), (7 : UInt8), (3 : UInt8), (4 : UInt8), (4 : UInt8), (5 : UInt8), (4 : UInt8), (5 : UInt8), (5 : UInt8), (6 : UInt8), (4 : UInt8), (5 : UInt8), (5 : UInt8), (6 : UInt8), (5 : UInt8), (6 : UInt8), (6 : UInt8), (7 : UInt8), (4 : UInt8), (5 : UInt8), (5 : UInt8), (6 : UInt8), (5 : UInt8), (6 : UInt8), (6 : UInt8), (7 : UInt8), (5 : UInt8), (6 : UInt8), (6 : UInt8), (7 : UInt8), (6 : UInt8), (7 : UInt8), (7 : UInt8), (8 : UInt8)])).toArray : ByteArray }.size : Int)) ∧
  ∀ (n25 : Int),
  (n25 = strAt { data := (([(0 : UInt8), (1 : UInt8), (1 : UInt8), (2 : UInt8), (1 : UInt8), (2 : UInt8), (2 : UInt8), (3 : UInt8), (1 : UInt8), (2 : UInt8), (2 : UInt8), (3 : UInt8), (2 : UInt8), (3 : UInt8), (3 : UInt8), (4 : UInt8), (1 : UInt8), (2 : UInt8), (2 : UInt8), (3 : UInt8), (2 : UInt8), (3 : UInt8), (3 : UInt8), (4 : UInt8), (2 : UInt8), (3 : UInt8), (3 : UInt8), (4 : UInt8), (3 : UInt8), (4 : UInt8), (4 : UInt8), (5 : UInt8), (1 : UInt8), (2 : UInt8), (2 : UInt8), (3 : UInt8), (2 : UInt8), (3 : UInt8), (3 : UInt8), (4 : UInt8), (2 : UInt8), (3 : UInt8), (3 : UInt8), (4 : UInt8), (3 : UInt8), (4 : UInt8), (4 : UInt8), (5 : UInt8), (2 : UInt8), (3 : UInt8), (3 : UInt8), (4 : UInt8), (3 : UInt8), (4 : UInt8), (4 : UInt8), (5 : UInt8), (3 : UInt8), (4 : UInt8), (4 : UInt8), (5 : UInt8), (4 : UInt8), (5 : UInt8), (5 : UInt8), (6 : UInt8)].append [(1 : UInt8), (2 : UInt8), (2 : UInt8), (3 : UInt8), (2 : UInt8), (3 : UInt8), (3 : UInt8), (4 : UInt8), (2 : UInt8), (3 : UInt8), (3 : UInt8), (4 : UInt8), (3 : UInt8), (4 : UInt8), (4 : UInt8), (5 : UInt8), (2 : UInt8), (3 : UInt8), (3 : UInt8), (4 : UInt8), (3 : UInt8), (4 : UInt8), (4 : UInt8), (5 : UInt8), (3 : UInt8), (4 : UInt8), (4 : UInt8), (5 : UInt8), (4 : UInt8), (5 : UInt8), (5 : UInt8), (6 : UInt8), (2 : UInt8), (3 : UInt8), (3 : UInt8), (4 : UInt8), (3 : UInt8), (4 : UInt8), (4 : UInt8), (5 : UInt8), (3 : UInt8), (4 : UInt8), (4 : UInt8), (5 : UInt8), (4 : UInt8), (5 : UInt8), (5 : UInt8), (6 : UInt8), (3 : UInt8), (4 : UInt8), (4 : UInt8), (5 : UInt8), (4 : UInt8), (5 : UInt8), (5 : UInt8), (6 : UInt8), (4 : UInt8), (5 : UInt8), (5 : UInt8), (6 : UInt8), (5 : UInt8), (6 : UInt8), (6 : UInt8), (7 : UInt8)]).append ([(1 : UInt8), (2 : UInt8), (2 : UInt8), (3 : UInt8), (2 : UInt8), (3 : UInt8), (3 : UInt8), (4 : UInt8), (2 : UInt8), (3 : UInt8), (3 : UInt8), (4 : UInt8), (3 : UInt8), (4 : UInt8), (4 : UInt8), (5 : UInt8), (2 : UInt8), (3 : UInt8), (3 : UInt8), (4 : UInt8), (3 : UInt8), (4 : UInt8), (4 : UInt8), (5 : UInt8), (3 : UInt8), (4 : UInt8), (4 : UInt8), (5 : UInt8), (4 : UInt8), (5 : UInt8), (5 : UInt8), (6 : UInt8), (2 : UInt8), (3 : UInt8), (3 : UInt8), (4 : UInt8), (3 : UInt8), (4 : UInt8), (4 : UInt8), (5 : UInt8), (3 : UInt8), (4 : UInt8), (4 : UInt8), (5 : UInt8), (4 : UInt8), (5 : UInt8), (5 : UInt8), (6 : UInt8), (3 : UInt8), (4 : UInt8), (4 : UInt8), (5 : UInt8), (4 : UInt8), (5 : UInt8), (5 : UInt8), (6 : UInt8), (4 : UInt8), (5 : UInt8), (5 : UInt8), (6 : UInt8), (5 : UInt8), (6 : UInt8), (6 : UInt8), (7 : UInt8)].append [(2 : UInt8), (3 : UInt8), (3 : UInt8), (4 : UInt8), (3 : UInt8), (4 : UInt8), (4 : UInt8), (5 : UInt8), (3 : UInt8), (4 : UInt8), (4 : UInt8), (5 : UInt8), (4 : UInt8), (5 : UInt8), (5 : UInt8), (6 : UInt8), (3 : UInt8), (4 : UInt8), (4 : UInt8), (5 : UInt8), (4 : UInt8), (5 : UInt8), (5 : UInt8), (6 : UInt8), (4 : UInt8), (5 : UInt8), (5 : UInt8), (6 : UInt8), (5 : UInt8), (6 : UInt8), (6 : UInt8), (7 : UInt8), (3 : UInt8), (4 : UInt8), (4 : UInt8), (5 : UInt8), (4 : UInt8), (5 : UInt8), (5 : UInt8), (6 : UInt8), (4 : UInt8), (5 : UInt8), (5 : UInt8), (6 : UInt8), (5 : UInt8), (6 : UInt8), (6 : UInt8), (7 : UInt8), (4 : UInt8), (5 : UInt8), (5 : UInt8), (6 : UInt8), (5 : UInt8), (6 : UInt8), (6 : UInt8), (7 : UInt8), (5 : UInt8), (6 : UInt8), (6 : UInt8), (7 : UInt8), (6 : UInt8), (7 : UInt8), (7 : UInt8), (8 : UInt8)])).toArray : ByteArray } n22) →
  ((0 : Int) ≤ n25 ∧ n25 ≤ (255 : Int)) →
  ∀ (n28 : Int),
  (n28 = IntKind.u8.wrap (n16 + n25)) →
  ((0 : Int) ≤ n28 ∧ n28 ≤ (255 : Int)) →
  ∀ (n31 : Int),
  (n31 = bits BinOp.and IntKind.u32 s (255 : Int)) →
  ((0 : Int) ≤ n31 ∧ n31 ≤ (4294967295 : Int)) →
  ((0 : Int) ≤ n31) ∧
  (n31 < (↑{ data := (([(0 : UInt8), (1 : UInt8), (1 : UInt8), (2 : UInt8), (1 : UInt8), (2 : UInt8), (2 : UInt8), (3 : UInt8), (1 : UInt8), (2 : UInt8), (2 : UInt8), (3 : UInt8), (2 : UInt8), (3 : UInt8), (3 : UInt8), (4 : UInt8), (1 : UInt8), (2 : UInt8), (2 : UInt8), (3 : UInt8), (2 : UInt8), (3 : UInt8), (3 : UInt8), (4 : UInt8), (2 : UInt8), (3 : UInt8), (3 : UInt8), (4 : UInt8), (3 : UInt8), (4 : UInt8), (4 : UInt8), (5 : UInt8), (1 : UInt8), (2 : UInt8), (2 : UInt8), (3 : UInt8), (2 : UInt8), (3 : UInt8), (3 : UInt8), (4 : UInt8), (2 : UInt8), (3 : UInt8), (3 : UInt8), (4 : UInt8), (3 : UInt8), (4 : UInt8), (4 : UInt8), (5 : UInt8), (2 : UInt8), (3 : UInt8), (3 : UInt8), (4 : UInt8), (3 : UInt8), (4 : UInt8), (4 : UInt8), (5 : UInt8), (3 : UInt8), (4 : UInt8), (4 : UInt8), (5 : UInt8), (4 : UInt8), (5 : UInt8), (5 : UInt8), (6 : UInt8)].append [(1 : UInt8), (2 : UInt8), (2 : UInt8), (3 : UInt8), (2 : UInt8), (3 : UInt8), (3 : UInt8), (4 : UInt8), (2 : UInt8), (3 : UInt8), (3 : UInt8), (4 : UInt8), (3 : UInt8), (4 : UInt8), (4 : UInt8), (5 : UInt8), (2 : UInt8), (3 : UInt8), (3 : UInt8), (4 : UInt8), (3 : UInt8), (4 : UInt8), (4 : UInt8), (5 : UInt8), (3 : UInt8), (4 : UInt8), (4 : UInt8), (5 : UInt8), (4 : UInt8), (5 : UInt8), (5 : UInt8), (6 : UInt8), (2 : UInt8), (3 : UInt8), (3 : UInt8), (4 : UInt8), (3 : UInt8), (4 : UInt8), (4 : UInt8), (5 : UInt8), (3 : UInt8), (4 : UInt8), (4 : UInt8), (5 : UInt8), (4 : UInt8), (5 : UInt8), (5 : UInt8), (6 : UInt8), (3 : UInt8), (4 : UInt8), (4 : UInt8), (5 : UInt8), (4 : UInt8), (5 : UInt8), (5 : UInt8), (6 : UInt8), (4 : UInt8), (5 : UInt8), (5 : UInt8), (6 : UInt8), (5 : UInt8), (6 : UInt8), (6 : UInt8), (7 : UInt8)]).append ([(1 : UInt8), (2 : UInt8), (2 : UInt8), (3 : UInt8), (2 : UInt8), (3 : UInt8), (3 : UInt8), (4 : UInt8), (2 : UInt8), (3 : UInt8), (3 : UInt8), (4 : UInt8), (3 : UInt8), (4 : UInt8), (4 : UInt8), (5 : UInt8), (2 : UInt8), (3 : UInt8), (3 : UInt8), (4 : UInt8), (3 : UInt8), (4 : UInt8), (4 : UInt8), (5 : UInt8), (3 : UInt8), (4 : UInt8), (4 : UInt8), (5 : UInt8), (4 : UInt8), (5 : UInt8), (5 : UInt8), (6 : UInt8), (2 : UInt8), (3 : UInt8), (3 : UInt8), (4 : UInt8), (3 : UInt8), (4 : UInt8), (4 : UInt8), (5 : UInt8), (3 : UInt8), (4 : UInt8), (4 : UInt8), (5 : UInt8), (4 : UInt8), (5 : UInt8), (5 : UInt8), (6 : UInt8), (3 : UInt8), (4 : UInt8), (4 : UInt8), (5 : UInt8), (4 : UInt8), (5 : UInt8), (5 : UInt8), (6 : UInt8), (4 : UInt8), (5 : UInt8), (5 : UInt8), (6 : UInt8), (5 : UInt8), (6 : UInt8), (6 : UInt8), (7 : UInt8)].append [(2 : UInt8), (3 : UInt8), (3 : UInt8), (4 : UInt8), (3 : UInt8), (4 : UInt8), (4 : UInt8), (5 : UInt8), (3 : UInt8), (4 : UInt8), (4 : UInt8), (5 : UInt8), (4 : UInt8), (5 : UInt8), (5 : UInt8), (6 : UInt8), (3 : UInt8), (4 : UInt8), (4 : UInt8), (5 : UInt8), (4 : UInt8), (5 : UInt8), (5 : UInt8), (6 : UInt8), (4 : UInt8), (5 : UInt8), (5 : UInt8), (6 : UInt8), (5 : UInt8), (6 : UInt8), (6 : UInt8), (7 : UInt8), (3 : UInt8), (4 : UInt8), (4 : UInt8), (5 : UInt8), (4 : UInt8), (5 : UInt8), (5 : UInt8), (6 : UInt8), (4 : UInt8), (5 : UInt8), (5 : UInt8), (6 : UInt8), (5 : UInt8), (6 : UInt8), (6 : UInt8), (7 : UInt8), (4 : UInt8), (5 : UInt8), (5 : UInt8), (6 : UInt8), (5 : UInt8), (6 : UInt8), (6 : UInt8), (7 : UInt8), (5 : UInt8), (6 : UInt8), (6 : UInt8), (7 : UInt8), (6 : UInt8), (7 : UInt8), (7 : UInt8), (8 : UInt8)])).toArray : ByteArray }.size : Int)) ∧
  ∀ (n34 : Int),
  (n34 = strAt { data := (([(0 : UInt8), (1 : UInt8), (1 : UInt8), (2 : UInt8), (1 : UInt8), (2 : UInt8), (2 : UInt8), (3 : UInt8), (1 : UInt8), (2 : UInt8), (2 : UInt8), (3 : UInt8), (2 : UInt8), (3 : UInt8), (3 : UInt8), (4 : UInt8), (1 : UInt8), (2 : UInt8), (2 : UInt8), (3 : UInt8), (2 : UInt8), (3 : UInt8), (3 : UInt8), (4 : UInt8), (2 : UInt8), (3 : UInt8), (3 : UInt8), (4 : UInt8), (3 : UInt8), (4 : UInt8), (4 : UInt8), (5 : UInt8), (1 : UInt8), (2 : UInt8), (2 : UInt8), (3 : UInt8), (2 : UInt8), (3 : UInt8), (3 : UInt8), (4 : UInt8), (2 : UInt8), (3 : UInt8), (3 : UInt8), (4 : UInt8), (3 : UInt8), (4 : UInt8), (4 : UInt8), (5 : UInt8), (2 : UInt8), (3 : UInt8), (3 : UInt8), (4 : UInt8), (3 : UInt8), (4 : UInt8), (4 : UInt8), (5 : UInt8), (3 : UInt8), (4 : UInt8), (4 : UInt8), (5 : UInt8), (4 : UInt8), (5 : UInt8), (5 : UInt8), (6 : UInt8)].append [(1 : UInt8), (2 : UInt8), (2 : UInt8), (3 : UInt8), (2 : UInt8), (3 : UInt8), (3 : UInt8), (4 : UInt8), (2 : UInt8), (3 : UInt8), (3 : UInt8), (4 : UInt8), (3 : UInt8), (4 : UInt8), (4 : UInt8), (5 : UInt8), (2 : UInt8), (3 : UInt8), (3 : UInt8), (4 : UInt8), (3 : UInt8), (4 : UInt8), (4 : UInt8), (5 : UInt8), (3 : UInt8), (4 : UInt8), (4 : UInt8), (5 : UInt8), (4 : UInt8), (5 : UInt8), (5 : UInt8), (6 : UInt8), (2 : UInt8), (3 : UInt8), (3 : UInt8), (4 : UInt8), (3 : UInt8), (4 : UInt8), (4 : UInt8), (5 : UInt8), (3 : UInt8), (4 : UInt8), (4 : UInt8), (5 : UInt8), (4 : UInt8), (5 : UInt8), (5 : UInt8), (6 : UInt8), (3 : UInt8), (4 : UInt8), (4 : UInt8), (5 : UInt8), (4 : UInt8), (5 : UInt8), (5 : UInt8), (6 : UInt8), (4 : UInt8), (5 : UInt8), (5 : UInt8), (6 : UInt8), (5 : UInt8), (6 : UInt8), (6 : UInt8), (7 : UInt8)]).append ([(1 : UInt8), (2 : UInt8), (2 : UInt8), (3 : UInt8), (2 : UInt8), (3 : UInt8), (3 : UInt8), (4 : UInt8), (2 : UInt8), (3 : UInt8), (3 : UInt8), (4 : UInt8), (3 : UInt8), (4 : UInt8), (4 : UInt8), (5 : UInt8), (2 : UInt8), (3 : UInt8), (3 : UInt8), (4 : UInt8), (3 : UInt8), (4 : UInt8), (4 : UInt8), (5 : UInt8), (3 : UInt8), (4 : UInt8), (4 : UInt8), (5 : UInt8), (4 : UInt8), (5 : UInt8), (5 : UInt8), (6 : UInt8), (2 : UInt8), (3 : UInt8), (3 : UInt8), (4 : UInt8), (3 : UInt8), (4 : UInt8), (4 : UInt8), (5 : UInt8), (3 : UInt8), (4 : UInt8), (4 : UInt8), (5 : UInt8), (4 : UInt8), (5 : UInt8), (5 : UInt8), (6 : UInt8), (3 : UInt8), (4 : UInt8), (4 : UInt8), (5 : UInt8), (4 : UInt8), (5 : UInt8), (5 : UInt8), (6 : UInt8), (4 : UInt8), (5 : UInt8), (5 : UInt8), (6 : UInt8), (5 : UInt8), (6 : UInt8), (6 : UInt8), (7 : UInt8)].append [(2 : UInt8), (3 : UInt8), (3 : UInt8), (4 : UInt8), (3 : UInt8), (4 : UInt8), (4 : UInt8), (5 : UInt8), (3 : UInt8), (4 : UInt8), (4 : UInt8), (5 : UInt8), (4 : UInt8), (5 : UInt8), (5 : UInt8), (6 : UInt8), (3 : UInt8), (4 : UInt8), (4 : UInt8), (5 : UInt8), (4 : UInt8), (5 : UInt8), (5 : UInt8), (6 : UInt8), (4 : UInt8), (5 : UInt8), (5 : UInt8), (6 : UInt8), (5 : UInt8), (6 : UInt8), (6 : UInt8), (7 : UInt8), (3 : UInt8), (4 : UInt8), (4 : UInt8), (5 : UInt8), (4 : UInt8), (5 : UInt8), (5 : UInt8), (6 : UInt8), (4 : UInt8), (5 : UInt8), (5 : UInt8), (6 : UInt8), (5 : UInt8), (6 : UInt8), (6 : UInt8), (7 : UInt8), (4 : UInt8), (5 : UInt8), (5 : UInt8), (6 : UInt8), (5 : UInt8), (6 : UInt8), (6 : UInt8), (7 : UInt8), (5 : UInt8), (6 : UInt8), (6 : UInt8), (7 : UInt8), (6 : UInt8), (7 : UInt8), (7 : UInt8), (8 : UInt8)])).toArray : ByteArray } n31) →
  ((0 : Int) ≤ n34 ∧ n34 ≤ (255 : Int)) →
  ∀ (n37 : Int),
  (n37 = IntKind.u8.wrap (n28 + n34)) →
  ((0 : Int) ≤ n37 ∧ n37 ≤ (255 : Int)) →
  ∀ (n40 : Int),
  (n40 = IntKind.i64.wrap n37) →
  ((-9223372036854775808 : Int) ≤ n40 ∧ n40 ≤ (9223372036854775807 : Int)) →
  (k (AV.int IntKind.i64 n40) [] []) := by
  refine ⟨by first | omega | (dsimp only; omega), ?_⟩ -- (0 : Int) ≤ (24 : Int)
  intro n1
  intro q1 -- n1 = s.fdiv ((2 : Int) ^ min (Int.toNat (24 : Int)) IntKind.u32.bits)
  rw [show (2 : Int) ^ min (Int.toNat (24 : Int)) IntKind.u32.bits = 16777216 from rfl, Int.fdiv_eq_ediv_of_nonneg _ (by decide)] at q1
  intro ⟨l1, u1⟩ -- (0 : Int) ≤ n1 ∧ n1 ≤ (4294967295 : Int)
  refine ⟨by assumption, ?_⟩ -- (0 : Int) ≤ n1
  have h1 : n1 < (↑{ data := (([(0 : UInt8), (1 : UInt8), (1 : UInt8), (2 : UInt8), (1 : UInt8), (2 : UInt8), (2 : UInt8), (3 : UInt8), (1 : UInt8), (2 : UInt8), (2 : UInt8), (3 : UInt8), (2 : UInt8), (3 : UInt8), (3 : UInt8), (4 : UInt8), (1 : UInt8), (2 : UInt8), (2 : UInt8), (3 : UInt8), (2 : UInt8), (3 : UInt8), (3 : UInt8), (4 : UInt8), (2 : UInt8), (3 : UInt8), (3 : UInt8), (4 : UInt8), (3 : UInt8), (4 : UInt8), (4 : UInt8), (5 : UInt8), (1 : UInt8), (2 : UInt8), (2 : UInt8), (3 : UInt8), (2 : UInt8), (3 : UInt8), (3 : UInt8), (4 : UInt8), (2 : UInt8), (3 : UInt8), (3 : UInt8), (4 : UInt8), (3 : UInt8), (4 : UInt8), (4 : UInt8), (5 : UInt8), (2 : UInt8), (3 : UInt8), (3 : UInt8), (4 : UInt8), (3 : UInt8), (4 : UInt8), (4 : UInt8), (5 : UInt8), (3 : UInt8), (4 : UInt8), (4 : UInt8), (5 : UInt8), (4 : UInt8), (5 : UInt8), (5 : UInt8), (6 : UInt8)].append [(1 : UInt8), (2 : UInt8), (2 : UInt8), (3 : UInt8), (2 : UInt8), (3 : UInt8), (3 : UInt8), (4 : UInt8), (2 : UInt8), (3 : UInt8), (3 : UInt8), (4 : UInt8), (3 : UInt8), (4 : UInt8), (4 : UInt8), (5 : UInt8), (2 : UInt8), (3 : UInt8), (3 : UInt8), (4 : UInt8), (3 : UInt8), (4 : UInt8), (4 : UInt8), (5 : UInt8), (3 : UInt8), (4 : UInt8), (4 : UInt8), (5 : UInt8), (4 : UInt8), (5 : UInt8), (5 : UInt8), (6 : UInt8), (2 : UInt8), (3 : UInt8), (3 : UInt8), (4 : UInt8), (3 : UInt8), (4 : UInt8), (4 : UInt8), (5 : UInt8), (3 : UInt8), (4 : UInt8), (4 : UInt8), (5 : UInt8), (4 : UInt8), (5 : UInt8), (5 : UInt8), (6 : UInt8), (3 : UInt8), (4 : UInt8), (4 : UInt8), (5 : UInt8), (4 : UInt8), (5 : UInt8), (5 : UInt8), (6 : UInt8), (4 : UInt8), (5 : UInt8), (5 : UInt8), (6 : UInt8), (5 : UInt8), (6 : UInt8), (6 : UInt8), (7 : UInt8)]).append ([(1 : UInt8), (2 : UInt8), (2 : UInt8), (3 : UInt8), (2 : UInt8), (3 : UInt8), (3 : UInt8), (4 : UInt8), (2 : UInt8), (3 : UInt8), (3 : UInt8), (4 : UInt8), (3 : UInt8), (4 : UInt8), (4 : UInt8), (5 : UInt8), (2 : UInt8), (3 : UInt8), (3 : UInt8), (4 : UInt8), (3 : UInt8), (4 : UInt8), (4 : UInt8), (5 : UInt8), (3 : UInt8), (4 : UInt8), (4 : UInt8), (5 : UInt8), (4 : UInt8), (5 : UInt8), (5 : UInt8), (6 : UInt8), (2 : UInt8), (3 : UInt8), (3 : UInt8), (4 : UInt8), (3 : UInt8), (4 : UInt8), (4 : UInt8), (5 : UInt8), (3 : UInt8), (4 : UInt8), (4 : UInt8), (5 : UInt8), (4 : UInt8), (5 : UInt8), (5 : UInt8), (6 : UInt8), (3 : UInt8), (4 : UInt8), (4 : UInt8), (5 : UInt8), (4 : UInt8), (5 : UInt8), (5 : UInt8), (6 : UInt8), (4 : UInt8), (5 : UInt8), (5 : UInt8), (6 : UInt8), (5 : UInt8), (6 : UInt8), (6 : UInt8), (7 : UInt8)].append [(2 : UInt8), (3 : UInt8), (3 : UInt8), (4 : UInt8), (3 : UInt8), (4 : UInt8), (4 : UInt8), (5 : UInt8), (3 : UInt8), (4 : UInt8), (4 : UInt8), (5 : UInt8), (4 : UInt8), (5 : UInt8), (5 : UInt8), (6 : UInt8), (3 : UInt8), (4 : UInt8), (4 : UInt8), (5 : UInt8), (4 : UInt8), (5 : UInt8), (5 : UInt8), (6 : UInt8), (4 : UInt8), (5 : UInt8), (5 : UInt8), (6 : UInt8), (5 : UInt8), (6 : UInt8), (6 : UInt8), (7 : UInt8), (3 : UInt8), (4 : UInt8), (4 : UInt8), (5 : UInt8), (4 : UInt8), (5 : UInt8), (5 : UInt8), (6 : UInt8), (4 : UInt8), (5 : UInt8), (5 : UInt8), (6 : UInt8), (5 : UInt8), (6 : UInt8), (6 : UInt8), (7 : UInt8), (4 : UInt8), (5 : UInt8), (5 : UInt8), (6 : UInt8), (5 : UInt8), (6 : UInt8), (6 : UInt8), (7 : UInt8), (5 : UInt8), (6 : UInt8), (6 : UInt8), (7 : UInt8), (6 : UInt8), (7 : UInt8), (7 : UInt8), (8 : UInt8)])).toArray : ByteArray }.size : Int) := by
    try rw [sh24] at q1
    refine Int.lt_of_lt_of_le (b := 256) ?_ (Int.ofNat_le.2 (Nat.le_of_ble_eq_true (by kernel_rfl)))
    omega
  refine ⟨h1, ?_⟩
  intro n4
  intro q4 -- n4 = strAt { data := (([(0 : UInt8), (1 : UInt8), (1 : UInt8), (2 : UInt8), (1 : UInt8), (2 : UInt8), (2 : UInt8), (3 : UInt8), (1 : UInt8), (2 : UInt8), (2 : UInt8), (3 : UInt8), (2 : UInt8), (3 : UInt8), (3 : UInt8), (4 : UInt8), (1 : UInt8), (2 : UInt8), (2 : UInt8), (3 : UInt8), (2 : UInt8), (3 : UInt8), (3 : UInt8), (4 : UInt8), (2 : UInt8), (3 : UInt8), (3 : UInt8), (4 : UInt8), (3 : UInt8), (4 : UInt8), (4 : UInt8), (5 : UInt8), (1 : UInt8), (2 : UInt8), (2 : UInt8), (3 : UInt8), (2 : UInt8), (3 : UInt8), (3 : UInt8), (4 : UInt8), (2 : UInt8), (3 : UInt8), (3 : UInt8), (4 : UInt8), (3 : UInt8), (4 : UInt8), (4 : UInt8), (5 : UInt8), (2 : UInt8), (3 : UInt8), (3 : UInt8), (4 : UInt8), (3 : UInt8), (4 : UInt8), (4 : UInt8), (5 : UInt8), (3 : UInt8), (4 : UInt8), (4 : UInt8), (5 : UInt8), (4 : UInt8), (5 : UInt8), (5 : UInt8), (6 : UInt8)].append [(1 : UInt8), (2 : UInt8), (2 : UInt8), (3 : UInt8), (2 : UInt8), (3 : UInt8), (3 : UInt8), (4 : UInt8), (2 : UInt8), (3 : UInt8), (3 : UInt8), (4 : UInt8), (3 : UInt8), (4 : UInt8), (4 : UInt8), (5 : UInt8), (2 : UInt8), (3 : UInt8), (3 : UInt8), (4 : UInt8), (3 : UInt8), (4 : UInt8), (4 : UInt8), (5 : UInt8), (3 : UInt8), (4 : UInt8), (4 : UInt8), (5 : UInt8), (4 : UInt8), (5 : UInt8), (5 : UInt8), (6 : UInt8), (2 : UInt8), (3 : UInt8), (3 : UInt8), (4 : UInt8), (3 : UInt8), (4 : UInt8), (4 : UInt8), (5 : UInt8), (3 : UInt8), (4 : UInt8), (4 : UInt8), (5 : UInt8), (4 : UInt8), (5 : UInt8), (5 : UInt8), (6 : UInt8), (3 : UInt8), (4 : UInt8), (4 : UInt8), (5 : UInt8), (4 : UInt8), (5 : UInt8), (5 : UInt8), (6 : UInt8), (4 : UInt8), (5 : UInt8), (5 : UInt8), (6 : UInt8), (5 : UInt8), (6 : UInt8), (6 : UInt8), (7 : UInt8)]).append ([(1 : UInt8), (2 : UInt8), (2 : UInt8), (3 : UInt8), (2 : UInt8), (3 : UInt8), (3 : UInt8), (4 : UInt8), (2 : UInt8), (3 : UInt8), (3 : UInt8), (4 : UInt8), (3 : UInt8), (4 : UInt8), (4 : UInt8), (5 : UInt8), (2 : UInt8), (3 : UInt8), (3 : UInt8), (4 : UInt8), (3 : UInt8), (4 : UInt8), (4 : UInt8), (5 : UInt8), (3 : UInt8), (4 : UInt8), (4 : UInt8), (5 : UInt8), (4 : UInt8), (5 : UInt8), (5 : UInt8), (6 : UInt8), (2 : UInt8), (3 : UInt8), (3 : UInt8), (4 : UInt8), (3 : UInt8), (4 : UInt8), (4 : UInt8), (5 : UInt8), (3 : UInt8), (4 : UInt8), (4 : UInt8), (5 : UInt8), (4 : UInt8), (5 : UInt8), (5 : UInt8), (6 : UInt8), (3 : UInt8), (4 : UInt8), (4 : UInt8), (5 : UInt8), (4 : UInt8), (5 : UInt8), (5 : UInt8), (6 : UInt8), (4 : UInt8), (5 : UInt8), (5 : UInt8), (6 : UInt8), (5 : UInt8), (6 : UInt8), (6 : UInt8), (7 : UInt8)].append [(2 : UInt8), (3 : UInt8), (3 : UInt8), (4 : UInt8), (3 : UInt8), (4 : UInt8), (4 : UInt8), (5 : UInt8), (3 : UInt8), (4 : UInt8), (4 : UInt8), (5 : UInt8), (4 : UInt8), (5 : UInt8), (5 : UInt8), (6 : UInt8), (3 : UInt8), (4 : UInt8), (4 : UInt8), (5 : UInt8), (4 : UInt8), (5 : UInt8), (5 : UInt8), (6 : UInt8), (4 : UInt8), (5 : UInt8), (5 : UInt8), (6 : UInt8), (5 : UInt8), (6 : UInt8), (6 : UInt8), (7 : UInt8), (3 : UInt8), (4 : UInt8), (4 : UInt8), (5 : UInt8), (4 : UInt8), (5 : UInt8), (5 : UInt8), (6 : UInt8), (4 : UInt8), (5 : UInt8), (5 : UInt8), (6 : UInt8), (5 : UInt8), (6 : UInt8), (6 : UInt8), (7 : UInt8), (4 : UInt8), (5 : UInt8), (5 : UInt8), (6 : UInt8), (5 : UInt8), (6 : UInt8), (6 : UInt8), (7 : UInt8), (5 : UInt8), (6 : UInt8), (6 : UInt8), (7 : UInt8), (6 : UInt8), (7 : UInt8), (7 : UInt8), (8 : UInt8)])).toArray : ByteArray } n1
  intro ⟨l4, u4⟩ -- (0 : Int) ≤ n4 ∧ n4 ≤ (255 : Int)
  refine ⟨by first | omega | (dsimp only; omega), ?_⟩ -- (0 : Int) ≤ (16 : Int)
  intro n7
  intro q7 -- n7 = s.fdiv ((2 : Int) ^ min (Int.toNat (16 : Int)) IntKind.u32.bits)
  rw [show (2 : Int) ^ min (Int.toNat (16 : Int)) IntKind.u32.bits = 65536 from rfl, Int.fdiv_eq_ediv_of_nonneg _ (by decide)] at q7
  intro ⟨l7, u7⟩ -- (0 : Int) ≤ n7 ∧ n7 ≤ (4294967295 : Int)
  intro n10
  intro q10 -- n10 = bits BinOp.and IntKind.u32 n7 (255 : Int)
  rw [and_u32 8 (by decide) 255 256 (by decide) (by decide) _ (by omega) (by omega)] at q10
  intro ⟨l10, u10⟩ -- (0 : Int) ≤ n10 ∧ n10 ≤ (4294967295 : Int)
  refine ⟨by assumption, ?_⟩ -- (0 : Int) ≤ n10
  have h2 : n10 < (↑{ data := (([(0 : UInt8), (1 : UInt8), (1 : UInt8), (2 : UInt8), (1 : UInt8), (2 : UInt8), (2 : UInt8), (3 : UInt8), (1 : UInt8), (2 : UInt8), (2 : UInt8), (3 : UInt8), (2 : UInt8), (3 : UInt8), (3 : UInt8), (4 : UInt8), (1 : UInt8), (2 : UInt8), (2 : UInt8), (3 : UInt8), (2 : UInt8), (3 : UInt8), (3 : UInt8), (4 : UInt8), (2 : UInt8), (3 : UInt8), (3 : UInt8), (4 : UInt8), (3 : UInt8), (4 : UInt8), (4 : UInt8), (5 : UInt8), (1 : UInt8), (2 : UInt8), (2 : UInt8), (3 : UInt8), (2 : UInt8), (3 : UInt8), (3 : UInt8), (4 : UInt8), (2 : UInt8), (3 : UInt8), (3 : UInt8), (4 : UInt8), (3 : UInt8), (4 : UInt8), (4 : UInt8), (5 : UInt8), (2 : UInt8), (3 : UInt8), (3 : UInt8), (4 : UInt8), (3 : UInt8), (4 : UInt8), (4 : UInt8), (5 : UInt8), (3 : UInt8), (4 : UInt8), (4 : UInt8), (5 : UInt8), (4 : UInt8), (5 : UInt8), (5 : UInt8), (6 : UInt8)].append [(1 : UInt8), (2 : UInt8), (2 : UInt8), (3 : UInt8), (2 : UInt8), (3 : UInt8), (3 : UInt8), (4 : UInt8), (2 : UInt8), (3 : UInt8), (3 : UInt8), (4 : UInt8), (3 : UInt8), (4 : UInt8), (4 : UInt8), (5 : UInt8), (2 : UInt8), (3 : UInt8), (3 : UInt8), (4 : UInt8), (3 : UInt8), (4 : UInt8), (4 : UInt8), (5 : UInt8), (3 : UInt8), (4 : UInt8), (4 : UInt8), (5 : UInt8), (4 : UInt8), (5 : UInt8), (5 : UInt8), (6 : UInt8), (2 : UInt8), (3 : UInt8), (3 : UInt8), (4 : UInt8), (3 : UInt8), (4 : UInt8), (4 : UInt8), (5 : UInt8), (3 : UInt8), (4 : UInt8), (4 : UInt8), (5 : UInt8), (4 : UInt8), (5 : UInt8), (5 : UInt8), (6 : UInt8), (3 : UInt8), (4 : UInt8), (4 : UInt8), (5 : UInt8), (4 : UInt8), (5 : UInt8), (5 : UInt8), (6 : UInt8), (4 : UInt8), (5 : UInt8), (5 : UInt8), (6 : UInt8), (5 : UInt8), (6 : UInt8), (6 : UInt8), (7 : UInt8)]).append ([(1 : UInt8), (2 : UInt8), (2 : UInt8), (3 : UInt8), (2 : UInt8), (3 : UInt8), (3 : UInt8), (4 : UInt8), (2 : UInt8), (3 : UInt8), (3 : UInt8), (4 : UInt8), (3 : UInt8), (4 : UInt8), (4 : UInt8), (5 : UInt8), (2 : UInt8), (3 : UInt8), (3 : UInt8), (4 : UInt8), (3 : UInt8), (4 : UInt8), (4 : UInt8), (5 : UInt8), (3 : UInt8), (4 : UInt8), (4 : UInt8), (5 : UInt8), (4 : UInt8), (5 : UInt8), (5 : UInt8), (6 : UInt8), (2 : UInt8), (3 : UInt8), (3 : UInt8), (4 : UInt8), (3 : UInt8), (4 : UInt8), (4 : UInt8), (5 : UInt8), (3 : UInt8), (4 : UInt8), (4 : UInt8), (5 : UInt8), (4 : UInt8), (5 : UInt8), (5 : UInt8), (6 : UInt8), (3 : UInt8), (4 : UInt8), (4 : UInt8), (5 : UInt8), (4 : UInt8), (5 : UInt8), (5 : UInt8), (6 : UInt8), (4 : UInt8), (5 : UInt8), (5 : UInt8), (6 : UInt8), (5 : UInt8), (6 : UInt8), (6 : UInt8), (7 : UInt8)].append [(2 : UInt8), (3 : UInt8), (3 : UInt8), (4 : UInt8), (3 : UInt8), (4 : UInt8), (4 : UInt8), (5 : UInt8), (3 : UInt8), (4 : UInt8), (4 : UInt8), (5 : UInt8), (4 : UInt8), (5 : UInt8), (5 : UInt8), (6 : UInt8), (3 : UInt8), (4 : UInt8), (4 : UInt8), (5 : UInt8), (4 : UInt8), (5 : UInt8), (5 : UInt8), (6 : UInt8), (4 : UInt8), (5 : UInt8), (5 : UInt8), (6 : UInt8), (5 : UInt8), (6 : UInt8), (6 : UInt8), (7 : UInt8), (3 : UInt8), (4 : UInt8), (4 : UInt8), (5 : UInt8), (4 : UInt8), (5 : UInt8), (5 : UInt8), (6 : UInt8), (4 : UInt8), (5 : UInt8), (5 : UInt8), (6 : UInt8), (5 : UInt8), (6 : UInt8), (6 : UInt8), (7 : UInt8), (4 : UInt8), (5 : UInt8), (5 : UInt8), (6 : UInt8), (5 : UInt8), (6 : UInt8), (6 : UInt8), (7 : UInt8), (5 : UInt8), (6 : UInt8), (6 : UInt8), (7 : UInt8), (6 : UInt8), (7 : UInt8), (7 : UInt8), (8 : UInt8)])).toArray : ByteArray }.size : Int) := by
    try rw [sh16] at q7
    rw [q10]
    (try rw [and255 ⟨l7, u7⟩])
    refine Int.lt_of_lt_of_le (b := 256) ?_ (Int.ofNat_le.2 (Nat.le_of_ble_eq_true (by kernel_rfl)))
    omega
  refine ⟨h2, ?_⟩
  intro n13
  intro q13 -- n13 = strAt { data := (([(0 : UInt8), (1 : UInt8), (1 : UInt8), (2 : UInt8), (1 : UInt8), (2 : UInt8), (2 : UInt8), (3 : UInt8), (1 : UInt8), (2 : UInt8), (2 : UInt8), (3 : UInt8), (2 : UInt8), (3 : UInt8), (3 : UInt8), (4 : UInt8), (1 : UInt8), (2 : UInt8), (2 : UInt8), (3 : UInt8), (2 : UInt8), (3 : UInt8), (3 : UInt8), (4 : UInt8), (2 : UInt8), (3 : UInt8), (3 : UInt8), (4 : UInt8), (3 : UInt8), (4 : UInt8), (4 : UInt8), (5 : UInt8), (1 : UInt8), (2 : UInt8), (2 : UInt8), (3 : UInt8), (2 : UInt8), (3 : UInt8), (3 : UInt8), (4 : UInt8), (2 : UInt8), (3 : UInt8), (3 : UInt8), (4 : UInt8), (3 : UInt8), (4 : UInt8), (4 : UInt8), (5 : UInt8), (2 : UInt8), (3 : UInt8), (3 : UInt8), (4 : UInt8), (3 : UInt8), (4 : UInt8), (4 : UInt8), (5 : UInt8), (3 : UInt8), (4 : UInt8), (4 : UInt8), (5 : UInt8), (4 : UInt8), (5 : UInt8), (5 : UInt8), (6 : UInt8)].append [(1 : UInt8), (2 : UInt8), (2 : UInt8), (3 : UInt8), (2 : UInt8), (3 : UInt8), (3 : UInt8), (4 : UInt8), (2 : UInt8), (3 : UInt8), (3 : UInt8), (4 : UInt8), (3 : UInt8), (4 : UInt8), (4 : UInt8), (5 : UInt8), (2 : UInt8), (3 : UInt8), (3 : UInt8), (4 : UInt8), (3 : UInt8), (4 : UInt8), (4 : UInt8), (5 : UInt8), (3 : UInt8), (4 : UInt8), (4 : UInt8), (5 : UInt8), (4 : UInt8), (5 : UInt8), (5 : UInt8), (6 : UInt8), (2 : UInt8), (3 : UInt8), (3 : UInt8), (4 : UInt8), (3 : UInt8), (4 : UInt8), (4 : UInt8), (5 : UInt8), (3 : UInt8), (4 : UInt8), (4 : UInt8), (5 : UInt8), (4 : UInt8), (5 : UInt8), (5 : UInt8), (6 : UInt8), (3 : UInt8), (4 : UInt8), (4 : UInt8), (5 : UInt8), (4 : UInt8), (5 : UInt8), (5 : UInt8), (6 : UInt8), (4 : UInt8), (5 : UInt8), (5 : UInt8), (6 : UInt8), (5 : UInt8), (6 : UInt8), (6 : UInt8), (7 : UInt8)]).append ([(1 : UInt8), (2 : UInt8), (2 : UInt8), (3 : UInt8), (2 : UInt8), (3 : UInt8), (3 : UInt8), (4 : UInt8), (2 : UInt8), (3 : UInt8), (3 : UInt8), (4 : UInt8), (3 : UInt8), (4 : UInt8), (4 : UInt8), (5 : UInt8), (2 : UInt8), (3 : UInt8), (3 : UInt8), (4 : UInt8), (3 : UInt8), (4 : UInt8), (4 : UInt8), (5 : UInt8), (3 : UInt8), (4 : UInt8), (4 : UInt8), (5 : UInt8), (4 : UInt8), (5 : UInt8), (5 : UInt8), (6 : UInt8), (2 : UInt8), (3 : UInt8), (3 : UInt8), (4 : UInt8), (3 : UInt8), (4 : UInt8), (4 : UInt8), (5 : UInt8), (3 : UInt8), (4 : UInt8), (4 : UInt8), (5 : UInt8), (4 : UInt8), (5 : UInt8), (5 : UInt8), (6 : UInt8), (3 : UInt8), (4 : UInt8), (4 : UInt8), (5 : UInt8), (4 : UInt8), (5 : UInt8), (5 : UInt8), (6 : UInt8), (4 : UInt8), (5 : UInt8), (5 : UInt8), (6 : UInt8), (5 : UInt8), (6 : UInt8), (6 : UInt8), (7 : UInt8)].append [(2 : UInt8), (3 : UInt8), (3 : UInt8), (4 : UInt8), (3 : UInt8), (4 : UInt8), (4 : UInt8), (5 : UInt8), (3 : UInt8), (4 : UInt8), (4 : UInt8), (5 : UInt8), (4 : UInt8), (5 : UInt8), (5 : UInt8), (6 : UInt8), (3 : UInt8), (4 : UInt8), (4 : UInt8), (5 : UInt8), (4 : UInt8), (5 : UInt8), (5 : UInt8), (6 : UInt8), (4 : UInt8), (5 : UInt8), (5 : UInt8), (6 : UInt8), (5 : UInt8), (6 : UInt8), (6 : UInt8), (7 : UInt8), (3 : UInt8), (4 : UInt8), (4 : UInt8), (5 : UInt8), (4 : UInt8), (5 : UInt8), (5 : UInt8), (6 : UInt8), (4 : UInt8), (5 : UInt8), (5 : UInt8), (6 : UInt8), (5 : UInt8), (6 : UInt8), (6 : UInt8), (7 : UInt8), (4 : UInt8), (5 : UInt8), (5 : UInt8), (6 : UInt8), (5 : UInt8), (6 : UInt8), (6 : UInt8), (7 : UInt8), (5 : UInt8), (6 : UInt8), (6 : UInt8), (7 : UInt8), (6 : UInt8), (7 : UInt8), (7 : UInt8), (8 : UInt8)])).toArray : ByteArray } n10
  intro ⟨l13, u13⟩ -- (0 : Int) ≤ n13 ∧ n13 ≤ (255 : Int)
  intro n16
  intro q16 -- n16 = IntKind.u8.wrap (n4 + n13)
  rw [IntKind.wrap_u8] at q16
  intro ⟨l16, u16⟩ -- (0 : Int) ≤ n16 ∧ n16 ≤ (255 : Int)
  refine ⟨by first | omega | (dsimp only; omega), ?_⟩ -- (0 : Int) ≤ (8 : Int)
  intro n19
  intro q19 -- n19 = s.fdiv ((2 : Int) ^ min (Int.toNat (8 : Int)) IntKind.u32.bits)
  rw [show (2 : Int) ^ min (Int.toNat (8 : Int)) IntKind.u32.bits = 256 from rfl, Int.fdiv_eq_ediv_of_nonneg _ (by decide)] at q19
  intro ⟨l19, u19⟩ -- (0 : Int) ≤ n19 ∧ n19 ≤ (4294967295 : Int)
  intro n22
  intro q22 -- n22 = bits BinOp.and IntKind.u32 n19 (255 : Int)
  rw [and_u32 8 (by decide) 255 256 (by decide) (by decide) _ (by omega) (by omega)] at q22
  intro ⟨l22, u22⟩ -- (0 : Int) ≤ n22 ∧ n22 ≤ (4294967295 : Int)
  refine ⟨by assumption, ?_⟩ -- (0 : Int) ≤ n22
  have h3 : n22 < (↑{ data := (([(0 : UInt8), (1 : UInt8), (1 : UInt8), (2 : UInt8), (1 : UInt8), (2 : UInt8), (2 : UInt8), (3 : UInt8), (1 : UInt8), (2 : UInt8), (2 : UInt8), (3 : UInt8), (2 : UInt8), (3 : UInt8), (3 : UInt8), (4 : UInt8), (1 : UInt8), (2 : UInt8), (2 : UInt8), (3 : UInt8), (2 : UInt8), (3 : UInt8), (3 : UInt8), (4 : UInt8), (2 : UInt8), (3 : UInt8), (3 : UInt8), (4 : UInt8), (3 : UInt8), (4 : UInt8), (4 : UInt8), (5 : UInt8), (1 : UInt8), (2 : UInt8), (2 : UInt8), (3 : UInt8), (2 : UInt8), (3 : UInt8), (3 : UInt8), (4 : UInt8), (2 : UInt8), (3 : UInt8), (3 : UInt8), (4 : UInt8), (3 : UInt8), (4 : UInt8), (4 : UInt8), (5 : UInt8), (2 : UInt8), (3 : UInt8), (3 : UInt8), (4 : UInt8), (3 : UInt8), (4 : UInt8), (4 : UInt8), (5 : UInt8), (3 : UInt8), (4 : UInt8), (4 : UInt8), (5 : UInt8), (4 : UInt8), (5 : UInt8), (5 : UInt8), (6 : UInt8)].append [(1 : UInt8), (2 : UInt8), (2 : UInt8), (3 : UInt8), (2 : UInt8), (3 : UInt8), (3 : UInt8), (4 : UInt8), (2 : UInt8), (3 : UInt8), (3 : UInt8), (4 : UInt8), (3 : UInt8), (4 : UInt8), (4 : UInt8), (5 : UInt8), (2 : UInt8), (3 : UInt8), (3 : UInt8), (4 : UInt8), (3 : UInt8), (4 : UInt8), (4 : UInt8), (5 : UInt8), (3 : UInt8), (4 : UInt8), (4 : UInt8), (5 : UInt8), (4 : UInt8), (5 : UInt8), (5 : UInt8), (6 : UInt8), (2 : UInt8), (3 : UInt8), (3 : UInt8), (4 : UInt8), (3 : UInt8), (4 : UInt8), (4 : UInt8), (5 : UInt8), (3 : UInt8), (4 : UInt8), (4 : UInt8), (5 : UInt8), (4 : UInt8), (5 : UInt8), (5 : UInt8), (6 : UInt8), (3 : UInt8), (4 : UInt8), (4 : UInt8), (5 : UInt8), (4 : UInt8), (5 : UInt8), (5 : UInt8), (6 : UInt8), (4 : UInt8), (5 : UInt8), (5 : UInt8), (6 : UInt8), (5 : UInt8), (6 : UInt8), (6 : UInt8), (7 : UInt8)]).append ([(1 : UInt8), (2 : UInt8), (2 : UInt8), (3 : UInt8), (2 : UInt8), (3 : UInt8), (3 : UInt8), (4 : UInt8), (2 : UInt8), (3 : UInt8), (3 : UInt8), (4 : UInt8), (3 : UInt8), (4 : UInt8), (4 : UInt8), (5 : UInt8), (2 : UInt8), (3 : UInt8), (3 : UInt8), (4 : UInt8), (3 : UInt8), (4 : UInt8), (4 : UInt8), (5 : UInt8), (3 : UInt8), (4 : UInt8), (4 : UInt8), (5 : UInt8), (4 : UInt8), (5 : UInt8), (5 : UInt8), (6 : UInt8), (2 : UInt8), (3 : UInt8), (3 : UInt8), (4 : UInt8), (3 : UInt8), (4 : UInt8), (4 : UInt8), (5 : UInt8), (3 : UInt8), (4 : UInt8), (4 : UInt8), (5 : UInt8), (4 : UInt8), (5 : UInt8), (5 : UInt8), (6 : UInt8), (3 : UInt8), (4 : UInt8), (4 : UInt8), (5 : UInt8), (4 : UInt8), (5 : UInt8), (5 : UInt8), (6 : UInt8), (4 : UInt8), (5 : UInt8), (5 : UInt8), (6 : UInt8), (5 : UInt8), (6 : UInt8), (6 : UInt8), (7 : UInt8)].append [(2 : UInt8), (3 : UInt8), (3 : UInt8), (4 : UInt8), (3 : UInt8), (4 : UInt8), (4 : UInt8), (5 : UInt8), (3 : UInt8), (4 : UInt8), (4 : UInt8), (5 : UInt8), (4 : UInt8), (5 : UInt8), (5 : UInt8), (6 : UInt8), (3 : UInt8), (4 : UInt8), (4 : UInt8), (5 : UInt8), (4 : UInt8), (5 : UInt8), (5 : UInt8), (6 : UInt8), (4 : UInt8), (5 : UInt8), (5 : UInt8), (6 : UInt8), (5 : UInt8), (6 : UInt8), (6 : UInt8), (7 : UInt8), (3 : UInt8), (4 : UInt8), (4 : UInt8), (5 : UInt8), (4 : UInt8), (5 : UInt8), (5 : UInt8), (6 : UInt8), (4 : UInt8), (5 : UInt8), (5 : UInt8), (6 : UInt8), (5 : UInt8), (6 : UInt8), (6 : UInt8), (7 : UInt8), (4 : UInt8), (5 : UInt8), (5 : UInt8), (6 : UInt8), (5 : UInt8), (6 : UInt8), (6 : UInt8), (7 : UInt8), (5 : UInt8), (6 : UInt8), (6 : UInt8), (7 : UInt8), (6 : UInt8), (7 : UInt8), (7 : UInt8), (8 : UInt8)])).toArray : ByteArray }.size : Int) := by
    try rw [sh8] at q19
    rw [q22]
    (try rw [and255 ⟨l19, u19⟩])
    refine Int.lt_of_lt_of_le (b := 256) ?_ (Int.ofNat_le.2 (Nat.le_of_ble_eq_true (by kernel_rfl)))
    omega
  refine ⟨h3, ?_⟩
  intro n25
  intro q25 -- n25 = strAt { data := (([(0 : UInt8), (1 : UInt8), (1 : UInt8), (2 : UInt8), (1 : UInt8), (2 : UInt8), (2 : UInt8), (3 : UInt8), (1 : UInt8), (2 : UInt8), (2 : UInt8), (3 : UInt8), (2 : UInt8), (3 : UInt8), (3 : UInt8), (4 : UInt8), (1 : UInt8), (2 : UInt8), (2 : UInt8), (3 : UInt8), (2 : UInt8), (3 : UInt8), (3 : UInt8), (4 : UInt8), (2 : UInt8), (3 : UInt8), (3 : UInt8), (4 : UInt8), (3 : UInt8), (4 : UInt8), (4 : UInt8), (5 : UInt8), (1 : UInt8), (2 : UInt8), (2 : UInt8), (3 : UInt8), (2 : UInt8), (3 : UInt8), (3 : UInt8), (4 : UInt8), (2 : UInt8), (3 : UInt8), (3 : UInt8), (4 : UInt8), (3 : UInt8), (4 : UInt8), (4 : UInt8), (5 : UInt8), (2 : UInt8), (3 : UInt8), (3 : UInt8), (4 : UInt8), (3 : UInt8), (4 : UInt8), (4 : UInt8), (5 : UInt8), (3 : UInt8), (4 : UInt8), (4 : UInt8), (5 : UInt8), (4 : UInt8), (5 : UInt8), (5 : UInt8), (6 : UInt8)].append [(1 : UInt8), (2 : UInt8), (2 : UInt8), (3 : UInt8), (2 : UInt8), (3 : UInt8), (3 : UInt8), (4 : UInt8), (2 : UInt8), (3 : UInt8), (3 : UInt8), (4 : UInt8), (3 : UInt8), (4 : UInt8), (4 : UInt8), (5 : UInt8), (2 : UInt8), (3 : UInt8), (3 : UInt8), (4 : UInt8), (3 : UInt8), (4 : UInt8), (4 : UInt8), (5 : UInt8), (3 : UInt8), (4 : UInt8), (4 : UInt8), (5 : UInt8), (4 : UInt8), (5 : UInt8), (5 : UInt8), (6 : UInt8), (2 : UInt8), (3 : UInt8), (3 : UInt8), (4 : UInt8), (3 : UInt8), (4 : UInt8), (4 : UInt8), (5 : UInt8), (3 : UInt8), (4 : UInt8), (4 : UInt8), (5 : UInt8), (4 : UInt8), (5 : UInt8), (5 : UInt8), (6 : UInt8), (3 : UInt8), (4 : UInt8), (4 : UInt8), (5 : UInt8), (4 : UInt8), (5 : UInt8), (5 : UInt8), (6 : UInt8), (4 : UInt8), (5 : UInt8), (5 : UInt8), (6 : UInt8), (5 : UInt8), (6 : UInt8), (6 : UInt8), (7 : UInt8)]).append ([(1 : UInt8), (2 : UInt8), (2 : UInt8), (3 : UInt8), (2 : UInt8), (3 : UInt8), (3 : UInt8), (4 : UInt8), (2 : UInt8), (3 : UInt8), (3 : UInt8), (4 : UInt8), (3 : UInt8), (4 : UInt8), (4 : UInt8), (5 : UInt8), (2 : UInt8), (3 : UInt8), (3 : UInt8), (4 : UInt8), (3 : UInt8), (4 : UInt8), (4 : UInt8), (5 : UInt8), (3 : UInt8), (4 : UInt8), (4 : UInt8), (5 : UInt8), (4 : UInt8), (5 : UInt8), (5 : UInt8), (6 : UInt8), (2 : UInt8), (3 : UInt8), (3 : UInt8), (4 : UInt8), (3 : UInt8), (4 : UInt8), (4 : UInt8), (5 : UInt8), (3 : UInt8), (4 : UInt8), (4 : UInt8), (5 : UInt8), (4 : UInt8), (5 : UInt8), (5 : UInt8), (6 : UInt8), (3 : UInt8), (4 : UInt8), (4 : UInt8), (5 : UInt8), (4 : UInt8), (5 : UInt8), (5 : UInt8), (6 : UInt8), (4 : UInt8), (5 : UInt8), (5 : UInt8), (6 : UInt8), (5 : UInt8), (6 : UInt8), (6 : UInt8), (7 : UInt8)].append [(2 : UInt8), (3 : UInt8), (3 : UInt8), (4 : UInt8), (3 : UInt8), (4 : UInt8), (4 : UInt8), (5 : UInt8), (3 : UInt8), (4 : UInt8), (4 : UInt8), (5 : UInt8), (4 : UInt8), (5 : UInt8), (5 : UInt8), (6 : UInt8), (3 : UInt8), (4 : UInt8), (4 : UInt8), (5 : UInt8), (4 : UInt8), (5 : UInt8), (5 : UInt8), (6 : UInt8), (4 : UInt8), (5 : UInt8), (5 : UInt8), (6 : UInt8), (5 : UInt8), (6 : UInt8), (6 : UInt8), (7 : UInt8), (3 : UInt8), (4 : UInt8), (4 : UInt8), (5 : UInt8), (4 : UInt8), (5 : UInt8), (5 : UInt8), (6 : UInt8), (4 : UInt8), (5 : UInt8), (5 : UInt8), (6 : UInt8), (5 : UInt8), (6 : UInt8), (6 : UInt8), (7 : UInt8), (4 : UInt8), (5 : UInt8), (5 : UInt8), (6 : UInt8), (5 : UInt8), (6 : UInt8), (6 : UInt8), (7 : UInt8), (5 : UInt8), (6 : UInt8), (6 : UInt8), (7 : UInt8), (6 : UInt8), (7 : UInt8), (7 : UInt8), (8 : UInt8)])).toArray : ByteArray } n22
  intro ⟨l25, u25⟩ -- (0 : Int) ≤ n25 ∧ n25 ≤ (255 : Int)
  intro n28
  intro q28 -- n28 = IntKind.u8.wrap (n16 + n25)
  rw [IntKind.wrap_u8] at q28
  intro ⟨l28, u28⟩ -- (0 : Int) ≤ n28 ∧ n28 ≤ (255 : Int)
  intro n31
  intro q31 -- n31 = bits BinOp.and IntKind.u32 s (255 : Int)
  rw [and_u32 8 (by decide) 255 256 (by decide) (by decide) _ (by omega) (by omega)] at q31
  intro ⟨l31, u31⟩ -- (0 : Int) ≤ n31 ∧ n31 ≤ (4294967295 : Int)
  refine ⟨by assumption, ?_⟩ -- (0 : Int) ≤ n31
  have h4 : n31 < (↑{ data := (([(0 : UInt8), (1 : UInt8), (1 : UInt8), (2 : UInt8), (1 : UInt8), (2 : UInt8), (2 : UInt8), (3 : UInt8), (1 : UInt8), (2 : UInt8), (2 : UInt8), (3 : UInt8), (2 : UInt8), (3 : UInt8), (3 : UInt8), (4 : UInt8), (1 : UInt8), (2 : UInt8), (2 : UInt8), (3 : UInt8), (2 : UInt8), (3 : UInt8), (3 : UInt8), (4 : UInt8), (2 : UInt8), (3 : UInt8), (3 : UInt8), (4 : UInt8), (3 : UInt8), (4 : UInt8), (4 : UInt8), (5 : UInt8), (1 : UInt8), (2 : UInt8), (2 : UInt8), (3 : UInt8), (2 : UInt8), (3 : UInt8), (3 : UInt8), (4 : UInt8), (2 : UInt8), (3 : UInt8), (3 : UInt8), (4 : UInt8), (3 : UInt8), (4 : UInt8), (4 : UInt8), (5 : UInt8), (2 : UInt8), (3 : UInt8), (3 : UInt8), (4 : UInt8), (3 : UInt8), (4 : UInt8), (4 : UInt8), (5 : UInt8), (3 : UInt8), (4 : UInt8), (4 : UInt8), (5 : UInt8), (4 : UInt8), (5 : UInt8), (5 : UInt8), (6 : UInt8)].append [(1 : UInt8), (2 : UInt8), (2 : UInt8), (3 : UInt8), (2 : UInt8), (3 : UInt8), (3 : UInt8), (4 : UInt8), (2 : UInt8), (3 : UInt8), (3 : UInt8), (4 : UInt8), (3 : UInt8), (4 : UInt8), (4 : UInt8), (5 : UInt8), (2 : UInt8), (3 : UInt8), (3 : UInt8), (4 : UInt8), (3 : UInt8), (4 : UInt8), (4 : UInt8), (5 : UInt8), (3 : UInt8), (4 : UInt8), (4 : UInt8), (5 : UInt8), (4 : UInt8), (5 : UInt8), (5 : UInt8), (6 : UInt8), (2 : UInt8), (3 : UInt8), (3 : UInt8), (4 : UInt8), (3 : UInt8), (4 : UInt8), (4 : UInt8), (5 : UInt8), (3 : UInt8), (4 : UInt8), (4 : UInt8), (5 : UInt8), (4 : UInt8), (5 : UInt8), (5 : UInt8), (6 : UInt8), (3 : UInt8), (4 : UInt8), (4 : UInt8), (5 : UInt8), (4 : UInt8), (5 : UInt8), (5 : UInt8), (6 : UInt8), (4 : UInt8), (5 : UInt8), (5 : UInt8), (6 : UInt8), (5 : UInt8), (6 : UInt8), (6 : UInt8), (7 : UInt8)]).append ([(1 : UInt8), (2 : UInt8), (2 : UInt8), (3 : UInt8), (2 : UInt8), (3 : UInt8), (3 : UInt8), (4 : UInt8), (2 : UInt8), (3 : UInt8), (3 : UInt8), (4 : UInt8), (3 : UInt8), (4 : UInt8), (4 : UInt8), (5 : UInt8), (2 : UInt8), (3 : UInt8), (3 : UInt8), (4 : UInt8), (3 : UInt8), (4 : UInt8), (4 : UInt8), (5 : UInt8), (3 : UInt8), (4 : UInt8), (4 : UInt8), (5 : UInt8), (4 : UInt8), (5 : UInt8), (5 : UInt8), (6 : UInt8), (2 : UInt8), (3 : UInt8), (3 : UInt8), (4 : UInt8), (3 : UInt8), (4 : UInt8), (4 : UInt8), (5 : UInt8), (3 : UInt8), (4 : UInt8), (4 : UInt8), (5 : UInt8), (4 : UInt8), (5 : UInt8), (5 : UInt8), (6 : UInt8), (3 : UInt8), (4 : UInt8), (4 : UInt8), (5 : UInt8), (4 : UInt8), (5 : UInt8), (5 : UInt8), (6 : UInt8), (4 : UInt8), (5 : UInt8), (5 : UInt8), (6 : UInt8), (5 : UInt8), (6 : UInt8), (6 : UInt8), (7 : UInt8)].append [(2 : UInt8), (3 : UInt8), (3 : UInt8), (4 : UInt8), (3 : UInt8), (4 : UInt8), (4 : UInt8), (5 : UInt8), (3 : UInt8), (4 : UInt8), (4 : UInt8), (5 : UInt8), (4 : UInt8), (5 : UInt8), (5 : UInt8), (6 : UInt8), (3 : UInt8), (4 : UInt8), (4 : UInt8), (5 : UInt8), (4 : UInt8), (5 : UInt8), (5 : UInt8), (6 : UInt8), (4 : UInt8), (5 : UInt8), (5 : UInt8), (6 : UInt8), (5 : UInt8), (6 : UInt8), (6 : UInt8), (7 : UInt8), (3 : UInt8), (4 : UInt8), (4 : UInt8), (5 : UInt8), (4 : UInt8), (5 : UInt8), (5 : UInt8), (6 : UInt8), (4 : UInt8), (5 : UInt8), (5 : UInt8), (6 : UInt8), (5 : UInt8), (6 : UInt8), (6 : UInt8), (7 : UInt8), (4 : UInt8), (5 : UInt8), (5 : UInt8), (6 : UInt8), (5 : UInt8), (6 : UInt8), (6 : UInt8), (7 : UInt8), (5 : UInt8), (6 : UInt8), (6 : UInt8), (7 : UInt8), (6 : UInt8), (7 : UInt8), (7 : UInt8), (8 : UInt8)])).toArray : ByteArray }.size : Int) := by
    rw [q31]
    (try rw [and255 ⟨s0, s1⟩])
    refine Int.lt_of_lt_of_le (b := 256) ?_ (Int.ofNat_le.2 (Nat.le_of_ble_eq_true (by kernel_rfl)))
    omega
  refine ⟨h4, ?_⟩
  intro n34
  intro q34 -- n34 = strAt { data := (([(0 : UInt8), (1 : UInt8), (1 : UInt8), (2 : UInt8), (1 : UInt8), (2 : UInt8), (2 : UInt8), (3 : UInt8), (1 : UInt8), (2 : UInt8), (2 : UInt8), (3 : UInt8), (2 : UInt8), (3 : UInt8), (3 : UInt8), (4 : UInt8), (1 : UInt8), (2 : UInt8), (2 : UInt8), (3 : UInt8), (2 : UInt8), (3 : UInt8), (3 : UInt8), (4 : UInt8), (2 : UInt8), (3 : UInt8), (3 : UInt8), (4 : UInt8), (3 : UInt8), (4 : UInt8), (4 : UInt8), (5 : UInt8), (1 : UInt8), (2 : UInt8), (2 : UInt8), (3 : UInt8), (2 : UInt8), (3 : UInt8), (3 : UInt8), (4 : UInt8), (2 : UInt8), (3 : UInt8), (3 : UInt8), (4 : UInt8), (3 : UInt8), (4 : UInt8), (4 : UInt8), (5 : UInt8), (2 : UInt8), (3 : UInt8), (3 : UInt8), (4 : UInt8), (3 : UInt8), (4 : UInt8), (4 : UInt8), (5 : UInt8), (3 : UInt8), (4 : UInt8), (4 : UInt8), (5 : UInt8), (4 : UInt8), (5 : UInt8), (5 : UInt8), (6 : UInt8)].append [(1 : UInt8), (2 : UInt8), (2 : UInt8), (3 : UInt8), (2 : UInt8), (3 : UInt8), (3 : UInt8), (4 : UInt8), (2 : UInt8), (3 : UInt8), (3 : UInt8), (4 : UInt8), (3 : UInt8), (4 : UInt8), (4 : UInt8), (5 : UInt8), (2 : UInt8), (3 : UInt8), (3 : UInt8), (4 : UInt8), (3 : UInt8), (4 : UInt8), (4 : UInt8), (5 : UInt8), (3 : UInt8), (4 : UInt8), (4 : UInt8), (5 : UInt8), (4 : UInt8), (5 : UInt8), (5 : UInt8), (6 : UInt8), (2 : UInt8), (3 : UInt8), (3 : UInt8), (4 : UInt8), (3 : UInt8), (4 : UInt8), (4 : UInt8), (5 : UInt8), (3 : UInt8), (4 : UInt8), (4 : UInt8), (5 : UInt8), (4 : UInt8), (5 : UInt8), (5 : UInt8), (6 : UInt8), (3 : UInt8), (4 : UInt8), (4 : UInt8), (5 : UInt8), (4 : UInt8), (5 : UInt8), (5 : UInt8), (6 : UInt8), (4 : UInt8), (5 : UInt8), (5 : UInt8), (6 : UInt8), (5 : UInt8), (6 : UInt8), (6 : UInt8), (7 : UInt8)]).append ([(1 : UInt8), (2 : UInt8), (2 : UInt8), (3 : UInt8), (2 : UInt8), (3 : UInt8), (3 : UInt8), (4 : UInt8), (2 : UInt8), (3 : UInt8), (3 : UInt8), (4 : UInt8), (3 : UInt8), (4 : UInt8), (4 : UInt8), (5 : UInt8), (2 : UInt8), (3 : UInt8), (3 : UInt8), (4 : UInt8), (3 : UInt8), (4 : UInt8), (4 : UInt8), (5 : UInt8), (3 : UInt8), (4 : UInt8), (4 : UInt8), (5 : UInt8), (4 : UInt8), (5 : UInt8), (5 : UInt8), (6 : UInt8), (2 : UInt8), (3 : UInt8), (3 : UInt8), (4 : UInt8), (3 : UInt8), (4 : UInt8), (4 : UInt8), (5 : UInt8), (3 : UInt8), (4 : UInt8), (4 : UInt8), (5 : UInt8), (4 : UInt8), (5 : UInt8), (5 : UInt8), (6 : UInt8), (3 : UInt8), (4 : UInt8), (4 : UInt8), (5 : UInt8), (4 : UInt8), (5 : UInt8), (5 : UInt8), (6 : UInt8), (4 : UInt8), (5 : UInt8), (5 : UInt8), (6 : UInt8), (5 : UInt8), (6 : UInt8), (6 : UInt8), (7 : UInt8)].append [(2 : UInt8), (3 : UInt8), (3 : UInt8), (4 : UInt8), (3 : UInt8), (4 : UInt8), (4 : UInt8), (5 : UInt8), (3 : UInt8), (4 : UInt8), (4 : UInt8), (5 : UInt8), (4 : UInt8), (5 : UInt8), (5 : UInt8), (6 : UInt8), (3 : UInt8), (4 : UInt8), (4 : UInt8), (5 : UInt8), (4 : UInt8), (5 : UInt8), (5 : UInt8), (6 : UInt8), (4 : UInt8), (5 : UInt8), (5 : UInt8), (6 : UInt8), (5 : UInt8), (6 : UInt8), (6 : UInt8), (7 : UInt8), (3 : UInt8), (4 : UInt8), (4 : UInt8), (5 : UInt8), (4 : UInt8), (5 : UInt8), (5 : UInt8), (6 : UInt8), (4 : UInt8), (5 : UInt8), (5 : UInt8), (6 : UInt8), (5 : UInt8), (6 : UInt8), (6 : UInt8), (7 : UInt8), (4 : UInt8), (5 : UInt8), (5 : UInt8), (6 : UInt8), (5 : UInt8), (6 : UInt8), (6 : UInt8), (7 : UInt8), (5 : UInt8), (6 : UInt8), (6 : UInt8), (7 : UInt8), (6 : UInt8), (7 : UInt8), (7 : UInt8), (8 : UInt8)])).toArray : ByteArray } n31
  intro ⟨l34, u34⟩ -- (0 : Int) ≤ n34 ∧ n34 ≤ (255 : Int)
  intro n37
  intro q37 -- n37 = IntKind.u8.wrap (n28 + n34)
  rw [IntKind.wrap_u8] at q37
  intro ⟨l37, u37⟩ -- (0 : Int) ≤ n37 ∧ n37 ≤ (255 : Int)
  intro n40
  intro q40 -- n40 = IntKind.i64.wrap n37
  rw [IntKind.wrap_i64] at q40
  intro ⟨l40, u40⟩ -- (-9223372036854775808 : Int) ≤ n40 ∧ n40 ≤ (9223372036854775807 : Int)
  -- k (AV.int IntKind.i64 n40) [] []
  try rw [sh24] at q1
  try rw [sh16] at q7
  try rw [sh8] at q19
  try rw [and255 ⟨l7, u7⟩] at q10
  try rw [and255 ⟨l19, u19⟩] at q22
  try rw [and255 ⟨s0, s1⟩] at q31
  have f1 := q4.trans (Eq.trans (by kernel_rfl) (pop_eq (b := n1) (by omega)))
  have f2 := q13.trans (Eq.trans (by kernel_rfl) (pop_eq (b := n10) (by omega)))
  have f3 := q25.trans (Eq.trans (by kernel_rfl) (pop_eq (b := n22) (by omega)))
  have f4 := q34.trans (Eq.trans (by kernel_rfl) (pop_eq (b := n31) (by omega)))
  clear q4 q13 q25 q34
  have g1 := cntN_le 8 n1.toNat
  have g2 := cntN_le 8 n10.toNat
  have g3 := cntN_le 8 n22.toNat
  have g4 := cntN_le 8 n31.toNat
  have e := cnt_four ⟨s0, s1⟩
  rw [← q1, ← q7, ← q10, ← q19, ← q22, ← q31, ← f1, ← f2, ← f3, ← f4] at e
  have e40 : n40 = cnt 32 s := by rw [← e]; omega
  exact hk n40 e40 (by rw [e40, ← e]; omega)

theorem ones_ok : Holds Tryd.prog 24 countS := by
  refine fn_sound (env := mkEnv T0) (tab_ok T0_ok) Tryd.func24 Tryd.call24 fun args k h => ?_
  match args, h with
  | [.int .u32 s], h => exact ⟨by kernel_rfl, fun _ _ => none, fun _ _ => none, .cast (by kernel_rfl) (ones_vc s h.1.1 h.1.2 k h.2)⟩
theorem T3_ok : TabOk Tryd.prog T3 := ⟨ones_ok, trivial⟩
set_option maxHeartbeats 2000000 in
theorem count_vc (s : Int) (s0 : (0 : Int) ≤ s) (s1 : s ≤ (4294967295 : Int)) (k : AV → List (Option Blk) → List Blk → Prop) (hk : ∀ (r : Int), r = cnt (32 : Nat) s → (0 : Int) ≤ r ∧ r ≤ (32 : Int) → k (AV.int IntKind.i64 r) [] []) :
  (
   ((0 : Int) ≤ s) ∧
   (s ≤ (4294967295 : Int))) ∧
  ∀ (r_1 : Int),
  (r_1 = cnt (32 : Nat) s) →
  ((0 : Int) ≤ r_1 ∧ r_1 ≤ (32 : Int)) →
  (k (AV.int IntKind.i64 r_1) [] []) := by
  refine ⟨by exact ⟨by assumption, by assumption⟩, ?_⟩ -- (0 : Int) ≤ s ∧ s ≤ (4294967295 : Int)
  intro r_1
  intro h1 -- r_1 = cnt (32 : Nat) s
  intro ⟨a2, b2⟩ -- (0 : Int) ≤ r_1 ∧ r_1 ≤ (32 : Int)
  -- k (AV.int IntKind.i64 r_1) [] []
  exact hk _ h1 ⟨a2, b2⟩

theorem count_ok : Holds Tryd.prog 12 countS := by
  refine fn_sound (env := mkEnv T3) (tab_ok T3_ok) Tryd.func12 Tryd.call12 fun args k h => ?_
  match args, h with
  | [.int .u32 s], h => exact ⟨by kernel_rfl, fun _ _ => none, fun _ _ => none, .cast (by kernel_rfl) (count_vc s h.1.1 h.1.2 k h.2)⟩
set_option maxHeartbeats 2000000 in
theorem rcount_vc (s : Int) (s0 : (0 : Int) ≤ s) (s1 : s ≤ (4294967295 : Int)) (k : AV → List (Option Blk) → List Blk → Prop) (hk : ∀ (r : Int), r = cnt (32 : Nat) s → (0 : Int) ≤ r ∧ r ≤ (32 : Int) → k (AV.int IntKind.i64 r) [] []) :
  (
   ∃ (v : Int × Int),
   (s = s) ∧
   ((0 : Int) = v.fst) ∧
   ((0 : Int) = v.snd) ∧
   (
    ((0 : Int) ≤ v.snd) ∧
    (v.snd ≤ (32 : Int))) ∧
   (v.fst = cnt v.snd.toNat s) ∧
   ((0 : Int) ≤ v.fst) ∧
   (v.fst ≤ v.snd)) ∧
  ∀ (v_1 : Int × Int),
  (((0 : Int) ≤ v_1.snd ∧ v_1.snd ≤ (32 : Int)) ∧ v_1.fst = cnt v_1.snd.toNat s ∧ (0 : Int) ≤ v_1.fst ∧ v_1.fst ≤ v_1.snd) →
  br (decide (v_1.snd < (32 : Int)))
   ((
     ((0 : Int) ≤ s) ∧
     (s ≤ (4294967295 : Int))) ∧
    (
     ((-9223372036854775808 : Int) ≤ v_1.snd) ∧
     (v_1.snd ≤ (9223372036854775807 : Int))) ∧
    br (hasB s v_1.snd)
     (∀ (n3 : Int),
      (n3 = IntKind.i64.wrap (v_1.fst + (1 : Int))) →
      ((-9223372036854775808 : Int) ≤ n3 ∧ n3 ≤ (9223372036854775807 : Int)) →
      ∀ (n6 : Int),
      (n6 = IntKind.i64.wrap (v_1.snd + (1 : Int))) →
      ((-9223372036854775808 : Int) ≤ n6 ∧ n6 ≤ (9223372036854775807 : Int)) →
      ∃ (v' : Int × Int),
      (s = s) ∧
      (n3 = v'.fst) ∧
      (n6 = v'.snd) ∧
      (
       (
        ((0 : Int) ≤ v'.snd) ∧
        (v'.snd ≤ (32 : Int))) ∧
       (v'.fst = cnt v'.snd.toNat s) ∧
       ((0 : Int) ≤ v'.fst) ∧
       (v'.fst ≤ v'.snd)) ∧
      (((32 : Int) - v'.snd).toNat < ((32 : Int) - v_1.snd).toNat))
     (∀ (n9 : Int),
      (n9 = IntKind.i64.wrap (v_1.snd + (1 : Int))) →
      ((-9223372036854775808 : Int) ≤ n9 ∧ n9 ≤ (9223372036854775807 : Int)) →
      ∃ (v' : Int × Int),
      (s = s) ∧
      (v_1.fst = v'.fst) ∧
      (n9 = v'.snd) ∧
      (
       (
        ((0 : Int) ≤ v'.snd) ∧
        (v'.snd ≤ (32 : Int))) ∧
       (v'.fst = cnt v'.snd.toNat s) ∧
       ((0 : Int) ≤ v'.fst) ∧
       (v'.fst ≤ v'.snd)) ∧
      (((32 : Int) - v'.snd).toNat < ((32 : Int) - v_1.snd).toNat)))
   ((k (AV.int IntKind.i64 v_1.fst) [] [])) := by
  refine ⟨?_, ?_⟩
  · -- left
    refine ⟨((0 : Int), (0 : Int)), ?_⟩
    refine ⟨by first | with_reducible rfl | rfl, ?_⟩ -- s = s
    refine ⟨by first | with_reducible rfl | rfl, ?_⟩ -- (0 : Int) = (0 : Int)
    refine ⟨by first | with_reducible rfl | rfl, ?_⟩ -- (0 : Int) = (0 : Int)
    refine ⟨by first | omega | (dsimp only; omega), ?_⟩ -- (0 : Int) ≤ (0 : Int) ∧ (0 : Int) ≤ (32 : Int)
    refine ⟨by rfl, ?_⟩ -- (0 : Int) = cnt (Int.toNat (0 : Int)) s
    refine ⟨by show (0 : Int) ≤ (0 : Int); omega, ?_⟩ -- (0 : Int) ≤ (0 : Int)
    exact by show (0 : Int) ≤ (0 : Int); omega -- (0 : Int) ≤ (0 : Int)
  intro v_1
  intro h1 -- ((0 : Int) ≤ v_1.snd ∧ v_1.snd ≤ (32 : Int)) ∧ v_1.fst = cnt v_1.snd.toNat s ∧ (0 : Int) ≤ v_1.fst ∧ v_1.fst ≤ v_1.snd
  refine brd (fun c2 => ?_) (fun c2 => ?_) -- decide (v_1.snd < (32 : Int))
  · -- yes
    refine ⟨by exact ⟨by assumption, by assumption⟩, ?_⟩ -- (0 : Int) ≤ s ∧ s ≤ (4294967295 : Int)
    refine ⟨by first | omega | (dsimp only; omega), ?_⟩ -- (-9223372036854775808 : Int) ≤ v_1.snd ∧ v_1.snd ≤ (9223372036854775807 : Int)
    refine br_intro (fun c3 => ?_) (fun c3 => ?_) -- hasB s v_1.snd
    · -- yes
      intro n3
      intro q3 -- n3 = IntKind.i64.wrap (v_1.fst + (1 : Int))
      rw [IntKind.wrap_i64] at q3
      intro ⟨l3, u3⟩ -- (-9223372036854775808 : Int) ≤ n3 ∧ n3 ≤ (9223372036854775807 : Int)
      intro n6
      intro q6 -- n6 = IntKind.i64.wrap (v_1.snd + (1 : Int))
      rw [IntKind.wrap_i64] at q6
      intro ⟨l6, u6⟩ -- (-9223372036854775808 : Int) ≤ n6 ∧ n6 ≤ (9223372036854775807 : Int)
      refine ⟨(n3, n6), ?_⟩
      refine ⟨by first | with_reducible rfl | rfl, ?_⟩ -- s = s
      refine ⟨by first | with_reducible rfl | rfl, ?_⟩ -- n3 = n3
      refine ⟨by first | with_reducible rfl | rfl, ?_⟩ -- n6 = n6
      refine ⟨?_, ?_⟩
      · -- left
        refine ⟨by first | omega | (dsimp only; omega), ?_⟩ -- (0 : Int) ≤ n6 ∧ n6 ≤ (32 : Int)
        have h4 : n3 = cnt n6.toNat s := by
          have e := cnt_next (s := s) (i := v_1.snd) s0 (by omega)
          rw [c3] at e
          rw [show n6 = v_1.snd + 1 by omega, e, ← h1.2.1, if_pos rfl]; omega
        refine ⟨h4, ?_⟩
        refine ⟨by show (0 : Int) ≤ n3; omega, ?_⟩ -- (0 : Int) ≤ n3
        exact by show n3 ≤ n6; omega -- n3 ≤ n6
      exact by show ((32 : Int) - n6).toNat < ((32 : Int) - v_1.snd).toNat; omega -- ((32 : Int) - n6).toNat < ((32 : Int) - v_1.snd).toNat
    · -- no
      intro n9
      intro q9 -- n9 = IntKind.i64.wrap (v_1.snd + (1 : Int))
      rw [IntKind.wrap_i64] at q9
      intro ⟨l9, u9⟩ -- (-9223372036854775808 : Int) ≤ n9 ∧ n9 ≤ (9223372036854775807 : Int)
      refine ⟨(v_1.fst, n9), ?_⟩
      refine ⟨by first | with_reducible rfl | rfl, ?_⟩ -- s = s
      refine ⟨by first | with_reducible rfl | rfl, ?_⟩ -- v_1.fst = v_1.fst
      refine ⟨by first | with_reducible rfl | rfl, ?_⟩ -- n9 = n9
      refine ⟨?_, ?_⟩
      · -- left
        refine ⟨by first | omega | (dsimp only; omega), ?_⟩ -- (0 : Int) ≤ n9 ∧ n9 ≤ (32 : Int)
        have h5 : v_1.fst = cnt n9.toNat s := by
          have e := cnt_next (s := s) (i := v_1.snd) s0 (by omega)
          rw [c3] at e
          rw [show n9 = v_1.snd + 1 by omega, e, ← h1.2.1]; simp
        refine ⟨h5, ?_⟩
        refine ⟨by show (0 : Int) ≤ v_1.fst; omega, ?_⟩ -- (0 : Int) ≤ v_1.fst
        exact by show v_1.fst ≤ n9; omega -- v_1.fst ≤ n9
      exact by show ((32 : Int) - n9).toNat < ((32 : Int) - v_1.snd).toNat; omega -- ((32 : Int) - n9).toNat < ((32 : Int) - v_1.snd).toNat
  · -- no
    -- k (AV.int IntKind.i64 v_1.fst) [] []
    exact hk _ (by rw [h1.2.1, show v_1.snd = 32 by omega]; rfl) (by omega)

theorem rcount_ok : Holds Tryd.prog 13 countS := by
  refine fn_sound (env := mkEnv T2) (tab_ok T2_ok) Tryd.func13 Tryd.call13 fun args k h => ?_
  match args, h with
  | [.int .u32 s], h => exact ⟨by kernel_rfl, rcountLoops s, fun _ _ => none, .cast (by kernel_rfl) (rcount_vc s h.1.1 h.1.2 k h.2)⟩
set_option maxHeartbeats 2000000 in
theorem least_vc (s : Int) (s0 : (0 : Int) ≤ s) (s1 : s ≤ (4294967295 : Int)) (k : AV → List (Option Blk) → List Blk → Prop) (hk : ∀ (r : Int), r = leastV s → (-1 : Int) ≤ r ∧ r ≤ (31 : Int) → k (AV.int IntKind.i64 r) [] []) :
  br (s == (0 : Int))
   ((k (AV.int IntKind.i64 (-1 : Int)) [] []))
   ((
     ((0 : Int) ≤ s) ∧
     (s ≤ (4294967295 : Int))) ∧
    ∀ (r_1 : Int),
    (r_1 = (↑(Lib.ctz (32 : Nat) s.toNat) : Int)) →
    ((0 : Int) ≤ r_1 ∧ r_1 ≤ (32 : Int)) →
    (k (AV.int IntKind.i64 r_1) [] [])) := by
  refine br_intro (fun c1 => ?_) (fun c1 => ?_) -- s == (0 : Int)
  · -- yes
    simp at c1 -- s = (0 : Int)
    -- k (AV.int IntKind.i64 (-1 : Int)) [] []
    exact hk (-1) (by unfold leastV; rw [if_pos c1]) (by omega)
  · -- no
    simp at c1 -- ¬s = (0 : Int)
    refine ⟨by exact ⟨by assumption, by assumption⟩, ?_⟩ -- (0 : Int) ≤ s ∧ s ≤ (4294967295 : Int)
    intro r_1
    intro h2 -- r_1 = (↑(Lib.ctz (32 : Nat) s.toNat) : Int)
    intro ⟨a3, b3⟩ -- (0 : Int) ≤ r_1 ∧ r_1 ≤ (32 : Int)
    -- k (AV.int IntKind.i64 r_1) [] []
    have e : r_1 = leastV s := by unfold leastV; rw [if_neg c1]; exact h2
    exact hk _ e (by rw [e]; exact least_bd ⟨s0, s1⟩)

theorem least_ok : Holds Tryd.prog 14 leastS := by
  refine fn_sound (env := mkEnv T4) (tab_ok T4_ok) Tryd.func14 Tryd.call14 fun args k h => ?_
  match args, h with
  | [.int .u32 s], h => exact ⟨by kernel_rfl, fun _ _ => none, fun _ _ => none, .cast (by kernel_rfl) (least_vc s h.1.1 h.1.2 k h.2)⟩
set_option maxHeartbeats 2000000 in
theorem rleast_vc (s : Int) (s0 : (0 : Int) ≤ s) (s1 : s ≤ (4294967295 : Int)) (k : AV → List (Option Blk) → List Blk → Prop) (hk : ∀ (r : Int), r = leastV s → (-1 : Int) ≤ r ∧ r ≤ (31 : Int) → k (AV.int IntKind.i64 r) [] []) :
  (
   ∃ (v : Int),
   (s = s) ∧
   ((0 : Int) = v) ∧
   (
    ((0 : Int) ≤ v) ∧
    (v ≤ (32 : Int))) ∧
   ∀ (j_1 : Int),
   ((0 : Int) ≤ j_1) →
   (j_1 < v) →
   (hasB s j_1 = false)) ∧
  ∀ (v_4 : Int),
  (((0 : Int) ≤ v_4 ∧ v_4 ≤ (32 : Int)) ∧ ∀ (j : Int), (0 : Int) ≤ j → j < v_4 → hasB s j = false) →
  br (decide (v_4 < (32 : Int)))
   ((
     ((0 : Int) ≤ s) ∧
     (s ≤ (4294967295 : Int))) ∧
    (
     ((-9223372036854775808 : Int) ≤ v_4) ∧
     (v_4 ≤ (9223372036854775807 : Int))) ∧
    br (hasB s v_4)
     ((k (AV.int IntKind.i64 v_4) [] []))
     (∀ (n6 : Int),
      (n6 = IntKind.i64.wrap (v_4 + (1 : Int))) →
      ((-9223372036854775808 : Int) ≤ n6 ∧ n6 ≤ (9223372036854775807 : Int)) →
      ∃ (v' : Int),
      (s = s) ∧
      (n6 = v') ∧
      (
       (
        ((0 : Int) ≤ v') ∧
        (v' ≤ (32 : Int))) ∧
       ∀ (j_9 : Int),
       ((0 : Int) ≤ j_9) →
       (j_9 < v') →
       (hasB s j_9 = false)) ∧
      (((32 : Int) - v').toNat < ((32 : Int) - v_4).toNat)))
   ((k (AV.int IntKind.i64 (-1 : Int)) [] [])) := by
  refine ⟨?_, ?_⟩
  · -- left
    refine ⟨(0 : Int), ?_⟩
    refine ⟨by first | with_reducible rfl | rfl, ?_⟩ -- s = s
    refine ⟨by first | with_reducible rfl | rfl, ?_⟩ -- (0 : Int) = (0 : Int)
    refine ⟨by first | omega | (dsimp only; omega), ?_⟩ -- (0 : Int) ≤ (0 : Int) ∧ (0 : Int) ≤ (32 : Int)
    intro j_1
    intro h1 -- (0 : Int) ≤ j_1
    intro h2 -- j_1 < (0 : Int)
    exact by show hasB s j_1 = false; omega -- hasB s j_1 = false
  intro v_4
  intro h3 -- ((0 : Int) ≤ v_4 ∧ v_4 ≤ (32 : Int)) ∧ ∀ (j : Int), (0 : Int) ≤ j → j < v_4 → hasB s j = false
  refine brd (fun c4 => ?_) (fun c4 => ?_) -- decide (v_4 < (32 : Int))
  · -- yes
    refine ⟨by exact ⟨by assumption, by assumption⟩, ?_⟩ -- (0 : Int) ≤ s ∧ s ≤ (4294967295 : Int)
    refine ⟨by first | omega | (dsimp only; omega), ?_⟩ -- (-9223372036854775808 : Int) ≤ v_4 ∧ v_4 ≤ (9223372036854775807 : Int)
    refine br_intro (fun c5 => ?_) (fun c5 => ?_) -- hasB s v_4
    · -- yes
      -- k (AV.int IntKind.i64 v_4) [] []
      exact hk _ (least_at ⟨s0, s1⟩ (by omega) c5 h3.2).symm (by omega)
    · -- no
      intro n6
      intro q6 -- n6 = IntKind.i64.wrap (v_4 + (1 : Int))
      rw [IntKind.wrap_i64] at q6
      intro ⟨l6, u6⟩ -- (-9223372036854775808 : Int) ≤ n6 ∧ n6 ≤ (9223372036854775807 : Int)
      refine ⟨n6, ?_⟩
      refine ⟨by first | with_reducible rfl | rfl, ?_⟩ -- s = s
      refine ⟨by first | with_reducible rfl | rfl, ?_⟩ -- n6 = n6
      refine ⟨?_, ?_⟩
      · -- left
        refine ⟨by first | omega | (dsimp only; omega), ?_⟩ -- (0 : Int) ≤ n6 ∧ n6 ≤ (32 : Int)
        intro j_9
        intro h6 -- (0 : Int) ≤ j_9
        intro h7 -- j_9 < n6
        -- hasB s j_9 = false
        rcases Decidable.em (j_9 < v_4) with h | h
        · exact h3.2 j_9 h6 h
        · rw [show j_9 = v_4 by omega]; exact c5
      exact by show ((32 : Int) - n6).toNat < ((32 : Int) - v_4).toNat; omega -- ((32 : Int) - n6).toNat < ((32 : Int) - v_4).toNat
  · -- no
    -- k (AV.int IntKind.i64 (-1 : Int)) [] []
    exact hk (-1) (least_none ⟨s0, s1⟩ fun j h0 h => h3.2 j h0 (by omega)).symm (by omega)

theorem rleast_ok : Holds Tryd.prog 15 leastS := by
  refine fn_sound (env := mkEnv T2) (tab_ok T2_ok) Tryd.func15 Tryd.call15 fun args k h => ?_
  match args, h with
  | [.int .u32 s], h => exact ⟨by kernel_rfl, rleastLoops s, fun _ _ => none, .cast (by kernel_rfl) (rleast_vc s h.1.1 h.1.2 k h.2)⟩
theorem T5_ok : TabOk Tryd.prog T5 := ⟨has_ok, rhas_ok, wth_ok, rwth_ok, wo_ok, rwo_ok, count_ok, rcount_ok, least_ok, rleast_ok, trivial⟩
set_option maxHeartbeats 2000000 in
theorem sets_vc (s : Int) (s0 : (0 : Int) ≤ s) (s1 : s ≤ (4294967295 : Int)) (i : Int) (i0 : (-9223372036854775808 : Int) ≤ i) (i1 : i ≤ (9223372036854775807 : Int)) (k : AV → List (Option Blk) → List Blk → Prop) (hk : k (AV.bool true) [] []) :
  (
   ((0 : Int) ≤ s) ∧
   (s ≤ (4294967295 : Int))) ∧
  (
   ((-9223372036854775808 : Int) ≤ i) ∧
   (i ≤ (9223372036854775807 : Int))) ∧
  (
   ((0 : Int) ≤ s) ∧
   (s ≤ (4294967295 : Int))) ∧
  (
   ((-9223372036854775808 : Int) ≤ i) ∧
   (i ≤ (9223372036854775807 : Int))) ∧
  br (hasB s i == hasB s i)
   ((
     ((0 : Int) ≤ s) ∧
     (s ≤ (4294967295 : Int))) ∧
    (
     ((-9223372036854775808 : Int) ≤ i) ∧
     (i ≤ (9223372036854775807 : Int))) ∧
    ∀ (r_1 : Int),
    (r_1 = withV s i) →
    ((0 : Int) ≤ r_1 ∧ r_1 ≤ (4294967295 : Int)) →
    (
     ((0 : Int) ≤ s) ∧
     (s ≤ (4294967295 : Int))) ∧
    (
     ((-9223372036854775808 : Int) ≤ i) ∧
     (i ≤ (9223372036854775807 : Int))) ∧
    ∀ (r_4 : Int),
    (r_4 = withV s i) →
    ((0 : Int) ≤ r_4 ∧ r_4 ≤ (4294967295 : Int)) →
    br (bif true then r_1 == r_4 else false)
     ((
       ((0 : Int) ≤ s) ∧
       (s ≤ (4294967295 : Int))) ∧
      (
       ((-9223372036854775808 : Int) ≤ i) ∧
       (i ≤ (9223372036854775807 : Int))) ∧
      ∀ (r_7 : Int),
      (r_7 = woV s i) →
      ((0 : Int) ≤ r_7 ∧ r_7 ≤ (4294967295 : Int)) →
      (
       ((0 : Int) ≤ s) ∧
       (s ≤ (4294967295 : Int))) ∧
      (
       ((-9223372036854775808 : Int) ≤ i) ∧
       (i ≤ (9223372036854775807 : Int))) ∧
      ∀ (r_10 : Int),
      (r_10 = woV s i) →
      ((0 : Int) ≤ r_10 ∧ r_10 ≤ (4294967295 : Int)) →
      br (bif true then r_7 == r_10 else false)
       ((
         ((0 : Int) ≤ s) ∧
         (s ≤ (4294967295 : Int))) ∧
        ∀ (r_13 : Int),
        (r_13 = cnt (32 : Nat) s) →
        ((0 : Int) ≤ r_13 ∧ r_13 ≤ (32 : Int)) →
        (
         ((0 : Int) ≤ s) ∧
         (s ≤ (4294967295 : Int))) ∧
        ∀ (r_16 : Int),
        (r_16 = cnt (32 : Nat) s) →
        ((0 : Int) ≤ r_16 ∧ r_16 ≤ (32 : Int)) →
        br (bif true then r_13 == r_16 else false)
         ((
           ((0 : Int) ≤ s) ∧
           (s ≤ (4294967295 : Int))) ∧
          ∀ (r_19 : Int),
          (r_19 = leastV s) →
          ((-1 : Int) ≤ r_19 ∧ r_19 ≤ (31 : Int)) →
          (
           ((0 : Int) ≤ s) ∧
           (s ≤ (4294967295 : Int))) ∧
          ∀ (r_22 : Int),
          (r_22 = leastV s) →
          ((-1 : Int) ≤ r_22 ∧ r_22 ≤ (31 : Int)) →
          (k (AV.bool (bif true then r_19 == r_22 else false)) [] []))
         ((false = false) ∧
          (k (AV.bool false) [] [])))
       ((false = false) ∧
        (false = false) ∧
        (k (AV.bool false) [] [])))
     ((false = false) ∧
      (false = false) ∧
      (false = false) ∧
      (k (AV.bool false) [] [])))
   ((false = false) ∧
    (false = false) ∧
    (false = false) ∧
    (false = false) ∧
    (k (AV.bool false) [] [])) := by
  refine ⟨by exact ⟨by assumption, by assumption⟩, ?_⟩ -- (0 : Int) ≤ s ∧ s ≤ (4294967295 : Int)
  refine ⟨by exact ⟨by assumption, by assumption⟩, ?_⟩ -- (-9223372036854775808 : Int) ≤ i ∧ i ≤ (9223372036854775807 : Int)
  refine ⟨by exact ⟨by assumption, by assumption⟩, ?_⟩ -- (0 : Int) ≤ s ∧ s ≤ (4294967295 : Int)
  refine ⟨by exact ⟨by assumption, by assumption⟩, ?_⟩ -- (-9223372036854775808 : Int) ≤ i ∧ i ≤ (9223372036854775807 : Int)
  refine br_intro (fun c1 => ?_) (fun c1 => ?_) -- hasB s i == hasB s i
  · -- yes
    simp at c1 -- True
    refine ⟨by exact ⟨by assumption, by assumption⟩, ?_⟩ -- (0 : Int) ≤ s ∧ s ≤ (4294967295 : Int)
    refine ⟨by exact ⟨by assumption, by assumption⟩, ?_⟩ -- (-9223372036854775808 : Int) ≤ i ∧ i ≤ (9223372036854775807 : Int)
    intro r_1
    intro h2 -- r_1 = withV s i
    intro ⟨a3, b3⟩ -- (0 : Int) ≤ r_1 ∧ r_1 ≤ (4294967295 : Int)
    refine ⟨by exact ⟨by assumption, by assumption⟩, ?_⟩ -- (0 : Int) ≤ s ∧ s ≤ (4294967295 : Int)
    refine ⟨by exact ⟨by assumption, by assumption⟩, ?_⟩ -- (-9223372036854775808 : Int) ≤ i ∧ i ≤ (9223372036854775807 : Int)
    intro r_4
    intro h4 -- r_4 = withV s i
    intro ⟨a5, b5⟩ -- (0 : Int) ≤ r_4 ∧ r_4 ≤ (4294967295 : Int)
    refine br_intro (fun c6 => ?_) (fun c6 => ?_) -- bif true then r_1 == r_4 else false
    · -- yes
      simp at c6 -- r_1 = r_4
      refine ⟨by exact ⟨by assumption, by assumption⟩, ?_⟩ -- (0 : Int) ≤ s ∧ s ≤ (4294967295 : Int)
      refine ⟨by exact ⟨by assumption, by assumption⟩, ?_⟩ -- (-9223372036854775808 : Int) ≤ i ∧ i ≤ (9223372036854775807 : Int)
      intro r_7
      intro h7 -- r_7 = woV s i
      intro ⟨a8, b8⟩ -- (0 : Int) ≤ r_7 ∧ r_7 ≤ (4294967295 : Int)
      refine ⟨by exact ⟨by assumption, by assumption⟩, ?_⟩ -- (0 : Int) ≤ s ∧ s ≤ (4294967295 : Int)
      refine ⟨by exact ⟨by assumption, by assumption⟩, ?_⟩ -- (-9223372036854775808 : Int) ≤ i ∧ i ≤ (9223372036854775807 : Int)
      intro r_10
      intro h9 -- r_10 = woV s i
      intro ⟨a10, b10⟩ -- (0 : Int) ≤ r_10 ∧ r_10 ≤ (4294967295 : Int)
      refine br_intro (fun c11 => ?_) (fun c11 => ?_) -- bif true then r_7 == r_10 else false
      · -- yes
        simp at c11 -- r_7 = r_10
        refine ⟨by exact ⟨by assumption, by assumption⟩, ?_⟩ -- (0 : Int) ≤ s ∧ s ≤ (4294967295 : Int)
        intro r_13
        intro h12 -- r_13 = cnt (32 : Nat) s
        intro ⟨a13, b13⟩ -- (0 : Int) ≤ r_13 ∧ r_13 ≤ (32 : Int)
        refine ⟨by exact ⟨by assumption, by assumption⟩, ?_⟩ -- (0 : Int) ≤ s ∧ s ≤ (4294967295 : Int)
        intro r_16
        intro h14 -- r_16 = cnt (32 : Nat) s
        intro ⟨a15, b15⟩ -- (0 : Int) ≤ r_16 ∧ r_16 ≤ (32 : Int)
        refine br_intro (fun c16 => ?_) (fun c16 => ?_) -- bif true then r_13 == r_16 else false
        · -- yes
          simp at c16 -- r_13 = r_16
          refine ⟨by exact ⟨by assumption, by assumption⟩, ?_⟩ -- (0 : Int) ≤ s ∧ s ≤ (4294967295 : Int)
          intro r_19
          intro h17 -- r_19 = leastV s
          intro ⟨a18, b18⟩ -- (-1 : Int) ≤ r_19 ∧ r_19 ≤ (31 : Int)
          refine ⟨by exact ⟨by assumption, by assumption⟩, ?_⟩ -- (0 : Int) ≤ s ∧ s ≤ (4294967295 : Int)
          intro r_22
          intro h19 -- r_22 = leastV s
          intro ⟨a20, b20⟩ -- (-1 : Int) ≤ r_22 ∧ r_22 ≤ (31 : Int)
          -- k (AV.bool (bif true then r_19 == r_22 else false)) [] []
          rw [h17, h19]; simpa using hk
        · -- no
          simp at c16 -- ¬r_13 = r_16
          exfalso; omega
      · -- no
        simp at c11 -- ¬r_7 = r_10
        exfalso; omega
    · -- no
      simp at c6 -- ¬r_1 = r_4
      exfalso; omega
  · -- no
    simp at c1

theorem sets_ok : Holds Tryd.prog 3 bothS := by
  refine fn_sound (env := mkEnv T5) (tab_ok T5_ok) Tryd.func3 Tryd.call3 fun args k h => ?_
  match args, h with
  | [.int .u32 s, .int .i64 i], h => exact ⟨by kernel_rfl, fun _ _ => none, fun _ _ => none, .cast (by kernel_rfl) (sets_vc s h.1.1 h.1.2 i h.2.1.1 h.2.1.2 k h.2.2)⟩
end Go.Proofs.YtcnnbofjgmohaaaDoor

