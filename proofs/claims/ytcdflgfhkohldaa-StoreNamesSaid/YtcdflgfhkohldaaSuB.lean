import Derived.Test.YtcdflgfhkohldaaSuA
namespace Go.Proofs.Ytcdflgfhkohldaa
open Go Go.Eng Go.Rw Go.Lk Go.Proofs
open Go.Bk hiding take_step drop_step set_mid
open Go.St hiding take_step
set_option linter.unusedVariables false
set_option maxHeartbeats 2000000 in
theorem done_vc (d : List UInt8) (m : Int) (l : List Plan) (w : Int) (t : Int) (hm : ((0 : Int) ≤ m ∧ m ≤ (255 : Int)) ∧ d.length ≤ (1000000 : Nat) ∧ (-9223372036854775808 : Int) ≤ w ∧ w ≤ (9223372036854775807 : Int)) (k : AV → List (Option Blk) → List Blk → Prop) (hk : ∀ (x : List UInt8) (b : Bool), DnR d m l w t x b → x.length ≤ d.length → k (AV.tup [AV.agg [AV.sl (0 : Nat) x], AV.bool b]) [] []) :
 (
 ((0 : Int) ≤ m) ∧
 (m ≤ (255 : Int))) ∧
 ∀ (e_1 : Int),
 ∀ (ps_2 : List Put),
 (PtR d m l e_1 ps_2) →
 ((0 : Int) ≤ e_1 ∧ e_1 ≤ (190 : Int)) →
 (ps_2.length ≤ (32 : Nat)) →
 br (e_1 != (0 : Int))
 ((k (AV.tup [AV.agg [AV.sl (0 : Nat) d], AV.bool false]) [] []))
 (∀ (n6 : Int),
  (n6 = (↑ps_2.length : Int)) →
  ((-9223372036854775808 : Int) ≤ n6 ∧ n6 ≤ (9223372036854775807 : Int)) →
  ∀ (n9 : Int),
  (n9 = min w n6) →
  ((-9223372036854775808 : Int) ≤ n9 ∧ n9 ≤ (9223372036854775807 : Int)) →
  (
  (d.length ≤ (1000000 : Nat)) ∧
  (ps_2.length ≤ (1000000 : Nat))) ∧
  ∀ (e_12 : Int),
  ∀ (ys_13 : List UInt8),
  (e_12 = doE d ps_2 n9 t) →
  (ys_13 = doO d ps_2 n9 t) →
  (ys_13.length ≤ d.length) →
  (k (AV.tup [AV.agg [AV.sl (0 : Nat) ys_13], AV.bool (e_12 == (0 : Int))]) [] [])) := by
 refine ⟨by first | omega | (dsimp only; omega), ?_⟩
 intro e_1
 intro ps_2
 intro h1
 intro ⟨a2, b2⟩
 intro h3
 refine br_intro (fun c4 => ?_) (fun c4 => ?_)
 ·
  simp at c4
  exact hk d false ⟨e_1, ps_2, h1, .inl ⟨c4, rfl, rfl⟩⟩ (Nat.le_refl _)
 ·
  simp at c4
  intro n6
  intro q6
  intro ⟨l6, u6⟩
  intro n9
  intro q9
  intro ⟨l9, u9⟩
  refine ⟨by first | omega | (dsimp only; omega), ?_⟩
  intro e_12
  intro ys_13
  intro h5
  intro h6
  intro h7
  rw [show n9 = min w (ps_2.length : Int) by rw [q9, q6]] at h5 h6
  exact hk ys_13 (e_12 == 0) ⟨e_1, ps_2, h1, .inr ⟨c4, h6, by rw [← h5]; simp⟩⟩ h7

theorem done_ok : Holds Try.prog 28 doneT := by
  refine fn_sound (env := mkEnv H5) (tab_ok H5_ok) Try.func28 Try.call28 fun args k h => ?_
  match args, h with
  | [.agg [.sl 0 d], .int .u8 m, .sl 10 l, .int .i64 w, .int .i64 t], h => exact ⟨by kernel_rfl, fun _ _ => none, fun _ _ => none, .cast (by kernel_rfl) (done_vc d m l w t h.1 k h.2)⟩
set_option maxHeartbeats 2000000 in
theorem sameD_vc (a : List UInt8) (b : List UInt8) (k : AV → List (Option Blk) → List Blk → Prop) (hk : ∀ (r : Bool), (r = true ↔ SameD a b) → k (AV.bool r) [] []) :
 ∀ (e_1 : Int),
 ∀ (g_2 : Int),
 ∀ (m_3 : Int),
 ∀ (ps_4 : List Plan),
 (RdR a e_1 g_2 m_3 ps_4) →
 ((0 : Int) ≤ e_1 ∧ e_1 ≤ (190 : Int)) →
 ((0 : Int) ≤ g_2 ∧ g_2 ≤ (4611686018427387903 : Int)) →
 ((0 : Int) ≤ m_3 ∧ m_3 ≤ (3 : Int)) →
 (ps_4.length ≤ (8 : Nat)) →
 ∀ (e_10 : Int),
 ∀ (g_11 : Int),
 ∀ (m_12 : Int),
 ∀ (ps_13 : List Plan),
 (RdR b e_10 g_11 m_12 ps_13) →
 ((0 : Int) ≤ e_10 ∧ e_10 ≤ (190 : Int)) →
 ((0 : Int) ≤ g_11 ∧ g_11 ≤ (4611686018427387903 : Int)) →
 ((0 : Int) ≤ m_12 ∧ m_12 ≤ (3 : Int)) →
 (ps_13.length ≤ (8 : Nat)) →
 ∀ (n19 : Int),
 (n19 = g_2) →
 ∀ (n21 : Int),
 (n21 = g_11) →
 ∀ (n23 : Int),
 (n23 = m_3) →
 ∀ (n25 : Int),
 (n25 = m_12) →
 br (bif bif e_1 == e_10 then n19 == n21 else false then n23 == n25 else false)
 (∀ (r_27 : Bool),
  (r_27 = true ↔ ps_4 = ps_13) →
  (k (AV.bool (bif true then r_27 else false)) [] []))
 ((false = false) ∧
  (k (AV.bool false) [] [])) := by
 intro e_1
 intro g_2
 intro m_3
 intro ps_4
 intro h1
 intro ⟨a2, b2⟩
 intro ⟨a3, b3⟩
 intro ⟨a4, b4⟩
 intro h5
 intro e_10
 intro g_11
 intro m_12
 intro ps_13
 intro h6
 intro ⟨a7, b7⟩
 intro ⟨a8, b8⟩
 intro ⟨a9, b9⟩
 intro h10
 intro n19
 intro q19
 intro n21
 intro q21
 intro n23
 intro q23
 intro n25
 intro q25
 refine br_intro (fun c11 => ?_) (fun c11 => ?_)
 ·
  simp at c11
  intro r_27
  intro h12
  rw [cond_true]
  refine hk _ ?_
  rw [SameD.iff h1 h6, h12]
  constructor
  ·
   intro e; exact ⟨c11.1.1, by omega, by omega, e⟩
  ·
   rintro ⟨-, -, -, e⟩; exact e
 ·
  simp at c11
  refine ⟨by with_reducible rfl, ?_⟩
  refine hk false ?_
  rw [SameD.iff h1 h6]
  refine ⟨fun e => (by cases e), ?_⟩
  rintro ⟨e1, e2, e3, -⟩
  exact absurd (show n23 = n25 by omega) (c11 e1 (by omega))

theorem sameD_ok : Holds Try.prog 30 sameDS := by
  refine fn_sound (env := mkEnv H5) (tab_ok H5_ok) Try.func30 Try.call30 fun args k h => ?_
  match args, h with
  | [.agg [.sl 0 a], .agg [.sl 0 b]], h => exact ⟨by kernel_rfl, fun _ _ => none, fun _ _ => none, .cast (by kernel_rfl) (sameD_vc a b k h)⟩
set_option maxHeartbeats 2000000 in
theorem one19_vc (k : AV → List (Option Blk) → List Blk → Prop) (hk : ∀ (l : List Plan), l = one1 → k (AV.row (10 : Nat) (0 : Nat) (0 : Nat) (1 : Nat)) [] [Blk.row (10 : Nat) l]) :
 (k (AV.row (10 : Nat) (0 : Nat) (0 : Nat) (1 : Nat)) [] [Blk.row (10 : Nat) [{ cycle := (5 : Int), offset := (0 : Int), splits := List.take (1 : Nat) (List.drop (0 : Nat) [(5 : Int)]) : Plan }]]) := by
 exact hk _ rfl

theorem one19_ok : Holds Try.prog 31 oneL := by
  refine fn_sound (env := mkEnv T0) (tab_ok T0_ok) Try.func31 Try.call31 fun args k h => ?_
  match args, h with
  | [], h => exact ⟨by kernel_rfl, fun _ _ => none, fun _ _ => none, .cast (by kernel_rfl) (one19_vc  k h)⟩
theorem one19T_ok : Holds Try.prog 31 oneT := one_up one19_ok
theorem H6_ok : TabOk Try.prog H6 := ⟨formatT_ok, one19T_ok, done_ok, zReadT_ok, samePl_ok, trivial⟩
set_option maxHeartbeats 2000000 in
theorem alive19_vc (k : AV → List (Option Blk) → List Blk → Prop) (hk : k (AV.bool true) [] []) :
 ∀ (e_1 : Int),
 ∀ (ys_2 : List UInt8),
 (e_1 = fmtE (4 : Int)) →
 (ys_2 = fmtO (4 : Int)) →
 ((0 : Int) ≤ e_1 ∧ e_1 ≤ (190 : Int)) →
 (
 ∀ (l_6 : List Plan),
 (l_6 = one1) →
 (
  (
  (
   ((0 : Int) ≤ (2 : Int)) ∧
   ((2 : Int) ≤ (255 : Int))) ∧
  (ys_2.length ≤ (1000000 : Nat)) ∧
  ((-9223372036854775808 : Int) ≤ (99 : Int)) ∧
  ((99 : Int) ≤ (9223372036854775807 : Int))) ∧
  ∀ (n8 : List UInt8),
  ∀ (b_9 : Bool),
  (DnR ys_2 (2 : Int) l_6 (99 : Int) (0 : Int) n8 b_9) →
  (n8.length ≤ ys_2.length) →
  ∀ (e_12 : Int),
  ∀ (g_13 : Int),
  ∀ (m_14 : Int),
  ∀ (ps_15 : List Plan),
  (RdR n8 e_12 g_13 m_14 ps_15) →
  ((0 : Int) ≤ e_12 ∧ e_12 ≤ (190 : Int)) →
  ((0 : Int) ≤ g_13 ∧ g_13 ≤ (4611686018427387903 : Int)) →
  ((0 : Int) ≤ m_14 ∧ m_14 ≤ (3 : Int)) →
  (ps_15.length ≤ (8 : Nat)) →
  ∀ (n21 : Int),
  (n21 = g_13) →
  ∀ (n23 : Int),
  (n23 = m_14) →
  br (bif bif bif bif e_1 == (0 : Int) then b_9 else false then e_12 == (0 : Int) else false then n21 == (1 : Int) else false then n23 == (2 : Int) else false)
  (∀ (l_25 : List Plan),
   (l_25 = one1) →
   ∀ (r_27 : Bool),
   (r_27 = true ↔ ps_15 = l_25) →
   (k (AV.bool (bif true then r_27 else false)) [] []))
  ((false = false) ∧
   (k (AV.bool false) [] []))) ∧
 (
  (
  ((0 : Int) ≤ (2 : Int)) ∧
  ((2 : Int) ≤ (255 : Int))) ∧
  (ys_2.length ≤ (1000000 : Nat)) ∧
  ((-9223372036854775808 : Int) ≤ (99 : Int)) ∧
  ((99 : Int) ≤ (9223372036854775807 : Int))) ∧
 ∀ (n29 : List UInt8),
 ∀ (b_30 : Bool),
 (DnR ys_2 (2 : Int) l_6 (99 : Int) (0 : Int) n29 b_30) →
 (n29.length ≤ ys_2.length) →
 ∀ (e_33 : Int),
 ∀ (g_34 : Int),
 ∀ (m_35 : Int),
 ∀ (ps_36 : List Plan),
 (RdR n29 e_33 g_34 m_35 ps_36) →
 ((0 : Int) ≤ e_33 ∧ e_33 ≤ (190 : Int)) →
 ((0 : Int) ≤ g_34 ∧ g_34 ≤ (4611686018427387903 : Int)) →
 ((0 : Int) ≤ m_35 ∧ m_35 ≤ (3 : Int)) →
 (ps_36.length ≤ (8 : Nat)) →
 ∀ (n42 : Int),
 (n42 = g_34) →
 ∀ (n44 : Int),
 (n44 = m_35) →
 br (bif bif bif bif e_1 == (0 : Int) then b_30 else false then e_33 == (0 : Int) else false then n42 == (1 : Int) else false then n44 == (2 : Int) else false)
  (∀ (l_46 : List Plan),
  (l_46 = one1) →
  ∀ (r_48 : Bool),
  (r_48 = true ↔ ps_36 = l_46) →
  (k (AV.bool (bif true then r_48 else false)) [] []))
  ((false = false) ∧
  (k (AV.bool false) [] []))) ∧
 ∀ (l_50 : List Plan),
 (l_50 = one1) →
 (
 (
  ((0 : Int) ≤ (2 : Int)) ∧
  ((2 : Int) ≤ (255 : Int))) ∧
 (ys_2.length ≤ (1000000 : Nat)) ∧
 ((-9223372036854775808 : Int) ≤ (99 : Int)) ∧
 ((99 : Int) ≤ (9223372036854775807 : Int))) ∧
 ∀ (n52 : List UInt8),
 ∀ (b_53 : Bool),
 (DnR ys_2 (2 : Int) l_50 (99 : Int) (0 : Int) n52 b_53) →
 (n52.length ≤ ys_2.length) →
 ∀ (e_56 : Int),
 ∀ (g_57 : Int),
 ∀ (m_58 : Int),
 ∀ (ps_59 : List Plan),
 (RdR n52 e_56 g_57 m_58 ps_59) →
 ((0 : Int) ≤ e_56 ∧ e_56 ≤ (190 : Int)) →
 ((0 : Int) ≤ g_57 ∧ g_57 ≤ (4611686018427387903 : Int)) →
 ((0 : Int) ≤ m_58 ∧ m_58 ≤ (3 : Int)) →
 (ps_59.length ≤ (8 : Nat)) →
 ∀ (n65 : Int),
 (n65 = g_57) →
 ∀ (n67 : Int),
 (n67 = m_58) →
 br (bif bif bif bif e_1 == (0 : Int) then b_53 else false then e_56 == (0 : Int) else false then n65 == (1 : Int) else false then n67 == (2 : Int) else false)
 (∀ (l_69 : List Plan),
  (l_69 = one1) →
  ∀ (r_71 : Bool),
  (r_71 = true ↔ ps_59 = l_69) →
  (k (AV.bool (bif true then r_71 else false)) [] []))
 ((false = false) ∧
  (k (AV.bool false) [] [])) := by
 intro e_1
 intro ys_2
 intro h1
 intro h2
 intro ⟨a3, b3⟩
 refine ⟨?_, ?_⟩
 ·
  intro l_6
  intro h4
  refine ⟨?_, ?_⟩
  ·
   refine ⟨?_, ?_⟩
   ·
    refine ⟨by first | omega | (dsimp only; omega), ?_⟩
    have h5 : ys_2.length ≤ (1000000 : Nat) := by
     rw [h2, fmt4, List.length_replicate]
     omega
    refine ⟨h5, ?_⟩
    refine ⟨by first | omega | (dsimp only; omega), ?_⟩
    exact by omega
   intro n8
   intro b_9
   intro h6
   intro h7
   intro e_12
   intro g_13
   intro m_14
   intro ps_15
   intro h8
   intro ⟨a9, b9⟩
   intro ⟨a10, b10⟩
   intro ⟨a11, b11⟩
   intro h12
   intro n21
   intro q21
   intro n23
   intro q23
   refine br_intro (fun c13 => ?_) (fun c13 => ?_)
   ·
    simp at c13
    intro l_25
    intro h14
    intro r_27
    intro h15
    rw [h2, h4] at h6
    obtain ⟨A1, A2, A3, A4, A5⟩ := alive_law h6 h8
    have hr : r_27 = true := h15.2 (A5.trans h14.symm)
    rw [hr]
    exact hk
   ·
    simp at c13
    refine ⟨by with_reducible rfl, ?_⟩
    rw [h2, h4] at h6
    obtain ⟨A1, A2, A3, A4, A5⟩ := alive_law h6 h8
    exact absurd (show n23 = 2 by omega) (c13 (by rw [h1]; decide) A1 A2 (by omega))
  refine ⟨?_, ?_⟩
  ·
   refine ⟨by first | omega | (dsimp only; omega), ?_⟩
   have h16 : ys_2.length ≤ (1000000 : Nat) := by
    rw [h2, fmt4, List.length_replicate]
    omega
   refine ⟨h16, ?_⟩
   refine ⟨by first | omega | (dsimp only; omega), ?_⟩
   exact by omega
  intro n29
  intro b_30
  intro h17
  intro h18
  intro e_33
  intro g_34
  intro m_35
  intro ps_36
  intro h19
  intro ⟨a20, b20⟩
  intro ⟨a21, b21⟩
  intro ⟨a22, b22⟩
  intro h23
  intro n42
  intro q42
  intro n44
  intro q44
  refine br_intro (fun c24 => ?_) (fun c24 => ?_)
  ·
   simp at c24
   intro l_46
   intro h25
   intro r_48
   intro h26
   rw [h2, h4] at h17
   obtain ⟨A1, A2, A3, A4, A5⟩ := alive_law h17 h19
   have hr : r_48 = true := h26.2 (A5.trans h25.symm)
   rw [hr]
   exact hk
  ·
   simp at c24
   refine ⟨by with_reducible rfl, ?_⟩
   rw [h2, h4] at h17
   obtain ⟨A1, A2, A3, A4, A5⟩ := alive_law h17 h19
   exact absurd (show n44 = 2 by omega) (c24 (by rw [h1]; decide) A1 A2 (by omega))
 intro l_50
 intro h27
 refine ⟨?_, ?_⟩
 ·
  refine ⟨by first | omega | (dsimp only; omega), ?_⟩
  have h28 : ys_2.length ≤ (1000000 : Nat) := by
   rw [h2, fmt4, List.length_replicate]
   omega
  refine ⟨h28, ?_⟩
  refine ⟨by first | omega | (dsimp only; omega), ?_⟩
  exact by omega
 intro n52
 intro b_53
 intro h29
 intro h30
 intro e_56
 intro g_57
 intro m_58
 intro ps_59
 intro h31
 intro ⟨a32, b32⟩
 intro ⟨a33, b33⟩
 intro ⟨a34, b34⟩
 intro h35
 intro n65
 intro q65
 intro n67
 intro q67
 refine br_intro (fun c36 => ?_) (fun c36 => ?_)
 ·
  simp at c36
  intro l_69
  intro h37
  intro r_71
  intro h38
  rw [h2, h27] at h29
  obtain ⟨A1, A2, A3, A4, A5⟩ := alive_law h29 h31
  have hr : r_71 = true := h38.2 (A5.trans h37.symm)
  rw [hr]
  exact hk
 ·
  simp at c36
  refine ⟨by with_reducible rfl, ?_⟩
  rw [h2, h27] at h29
  obtain ⟨A1, A2, A3, A4, A5⟩ := alive_law h29 h31
  exact absurd (show n67 = 2 by omega) (c36 (by rw [h1]; decide) A1 A2 (by omega))

theorem alive19_ok : Holds Try.prog 26 aliveS := by
  refine fn_sound (env := mkEnv H6) (tab_ok H6_ok) Try.func26 Try.call26 fun args k h => ?_
  match args, h with
  | [], h => exact ⟨by kernel_rfl, fun _ _ => none, fun _ _ => none, .cast (by kernel_rfl) (alive19_vc  k h)⟩
theorem H8_ok : TabOk Try.prog H8 := ⟨alive19_ok, much_ok, done_ok, sameD_ok, zReadT_ok, putzT_ok, zSlotT_ok, do_upT bdo_ok, samePl_ok, trivial⟩
end Go.Proofs.Ytcdflgfhkohldaa

