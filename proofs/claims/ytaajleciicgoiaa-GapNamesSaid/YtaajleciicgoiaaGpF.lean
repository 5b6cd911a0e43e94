/- GapTicks, GapStays, GapNames: gaps go on, and tell shares and gaps, as is said; gaps that may be, may be a tick later; the limits and errors have their numbers. For every input; no conditions. -/
import Derived.Test.YtaajleciicgoiaaGpE
import Derived.Test.YtaajleciicgoiaaEngR
import Derived.Test.YtaajleciicgoiaaRows
namespace Go.Proofs.Ytaajleciicgoiaa
open Go Go.Eng Go.Fx Go.Proofs
set_option linter.unusedVariables false
set_option maxHeartbeats 2000000 in
theorem gapTicks_vc (gu : Bool) (gh : Int) (gh0 : (-9223372036854775808 : Int) ≤ gh) (gh1 : gh ≤ (9223372036854775807 : Int)) (gp : Int) (gp0 : (-9223372036854775808 : Int) ≤ gp) (gp1 : gp ≤ (9223372036854775807 : Int)) (gc : Int) (gc0 : (-9223372036854775808 : Int) ≤ gc) (gc1 : gc ≤ (9223372036854775807 : Int)) (gl : Int) (gl0 : (0 : Int) ≤ gl) (gl1 : gl ≤ (18446744073709551615 : Int)) (up : Bool) (w : Int) (w0 : (-9223372036854775808 : Int) ≤ w) (w1 : w ≤ (9223372036854775807 : Int)) (long : Int) (long0 : (-9223372036854775808 : Int) ≤ long) (long1 : long ≤ (9223372036854775807 : Int)) (k : AV → List (Option Blk) → List Blk → Prop) (hk : k (AV.bool true) [] []) :
  (
   ((-9223372036854775808 : Int) ≤ gh) ∧
   (gh ≤ (9223372036854775807 : Int))) ∧
  (
   ((-9223372036854775808 : Int) ≤ gp) ∧
   (gp ≤ (9223372036854775807 : Int))) ∧
  (
   ((-9223372036854775808 : Int) ≤ gc) ∧
   (gc ≤ (9223372036854775807 : Int))) ∧
  (
   ((0 : Int) ≤ gl) ∧
   (gl ≤ (18446744073709551615 : Int))) ∧
  ∀ (u_1 : Bool),
  ∀ (h_2 : Int),
  ∀ (p_3 : Int),
  ∀ (c_4 : Int),
  ∀ (l_5 : Int),
  ∀ (e_6 : Int),
  (u_1 = nU gu gh gp gc gl up) →
  (h_2 = nH gu gh gp gc gl up) →
  (p_3 = nP gu gh gp gc gl up) →
  (c_4 = nC gu gh gp gc gl up) →
  (l_5 = nL gu gh gp gc gl up) →
  (e_6 = gE gu gh gp gc gl) →
  ((0 : Int) ≤ h_2 ∧ h_2 ≤ (1048576 : Int)) →
  ((0 : Int) ≤ p_3 ∧ p_3 ≤ (1048576 : Int)) →
  ((0 : Int) ≤ c_4 ∧ c_4 ≤ (1073741824 : Int)) →
  ((0 : Int) ≤ l_5 ∧ l_5 ≤ (18446744073709551615 : Int)) →
  (e_6 = (0 : Int) ∨ e_6 = (8 : Int)) →
  (
   ((-9223372036854775808 : Int) ≤ gh) ∧
   (gh ≤ (9223372036854775807 : Int))) ∧
  (
   ((-9223372036854775808 : Int) ≤ gp) ∧
   (gp ≤ (9223372036854775807 : Int))) ∧
  (
   ((-9223372036854775808 : Int) ≤ gc) ∧
   (gc ≤ (9223372036854775807 : Int))) ∧
  (
   ((0 : Int) ≤ gl) ∧
   (gl ≤ (18446744073709551615 : Int))) ∧
  ∀ (u_18 : Bool),
  ∀ (h_19 : Int),
  ∀ (p_20 : Int),
  ∀ (c_21 : Int),
  ∀ (l_22 : Int),
  ∀ (e_23 : Int),
  (u_18 = nU gu gh gp gc gl up) →
  (h_19 = nH gu gh gp gc gl up) →
  (p_20 = nP gu gh gp gc gl up) →
  (c_21 = nC gu gh gp gc gl up) →
  (l_22 = nL gu gh gp gc gl up) →
  (e_23 = gE gu gh gp gc gl) →
  ((0 : Int) ≤ h_19 ∧ h_19 ≤ (1048576 : Int)) →
  ((0 : Int) ≤ p_20 ∧ p_20 ≤ (1048576 : Int)) →
  ((0 : Int) ≤ c_21 ∧ c_21 ≤ (1073741824 : Int)) →
  ((0 : Int) ≤ l_22 ∧ l_22 ≤ (18446744073709551615 : Int)) →
  (e_23 = (0 : Int) ∨ e_23 = (8 : Int)) →
  (
   ((-9223372036854775808 : Int) ≤ gh) ∧
   (gh ≤ (9223372036854775807 : Int))) ∧
  (
   ((-9223372036854775808 : Int) ≤ gp) ∧
   (gp ≤ (9223372036854775807 : Int))) ∧
  (
   ((-9223372036854775808 : Int) ≤ gc) ∧
   (gc ≤ (9223372036854775807 : Int))) ∧
  (
   ((0 : Int) ≤ gl) ∧
   (gl ≤ (18446744073709551615 : Int))) ∧
  (
   ((-9223372036854775808 : Int) ≤ w) ∧
   (w ≤ (9223372036854775807 : Int))) ∧
  ∀ (v_35 : Int),
  ∀ (e_36 : Int),
  (v_35 = shV gu gh gp gc gl w) →
  (e_36 = shE gu gh gp gc gl w) →
  ((0 : Int) ≤ v_35 ∧ v_35 ≤ (65536 : Int)) →
  (e_36 = (0 : Int) ∨ e_36 = (2 : Int) ∨ e_36 = (8 : Int)) →
  (
   ((-9223372036854775808 : Int) ≤ gh) ∧
   (gh ≤ (9223372036854775807 : Int))) ∧
  (
   ((-9223372036854775808 : Int) ≤ gp) ∧
   (gp ≤ (9223372036854775807 : Int))) ∧
  (
   ((-9223372036854775808 : Int) ≤ gc) ∧
   (gc ≤ (9223372036854775807 : Int))) ∧
  (
   ((0 : Int) ≤ gl) ∧
   (gl ≤ (18446744073709551615 : Int))) ∧
  (
   ((-9223372036854775808 : Int) ≤ w) ∧
   (w ≤ (9223372036854775807 : Int))) ∧
  ∀ (v_41 : Int),
  ∀ (e_42 : Int),
  (v_41 = shV gu gh gp gc gl w) →
  (e_42 = shE gu gh gp gc gl w) →
  ((0 : Int) ≤ v_41 ∧ v_41 ≤ (65536 : Int)) →
  (e_42 = (0 : Int) ∨ e_42 = (2 : Int) ∨ e_42 = (8 : Int)) →
  (
   ((-9223372036854775808 : Int) ≤ gh) ∧
   (gh ≤ (9223372036854775807 : Int))) ∧
  (
   ((-9223372036854775808 : Int) ≤ gp) ∧
   (gp ≤ (9223372036854775807 : Int))) ∧
  (
   ((-9223372036854775808 : Int) ≤ gc) ∧
   (gc ≤ (9223372036854775807 : Int))) ∧
  (
   ((0 : Int) ≤ gl) ∧
   (gl ≤ (18446744073709551615 : Int))) ∧
  (
   ((-9223372036854775808 : Int) ≤ long) ∧
   (long ≤ (9223372036854775807 : Int))) ∧
  ∀ (b_47 : Bool),
  ∀ (e_48 : Int),
  (b_47 = paV gu gh gp gc gl long) →
  (e_48 = paE gu gh gp gc gl long) →
  (e_48 = (0 : Int) ∨ e_48 = (2 : Int) ∨ e_48 = (8 : Int)) →
  (
   ((-9223372036854775808 : Int) ≤ gh) ∧
   (gh ≤ (9223372036854775807 : Int))) ∧
  (
   ((-9223372036854775808 : Int) ≤ gp) ∧
   (gp ≤ (9223372036854775807 : Int))) ∧
  (
   ((-9223372036854775808 : Int) ≤ gc) ∧
   (gc ≤ (9223372036854775807 : Int))) ∧
  (
   ((0 : Int) ≤ gl) ∧
   (gl ≤ (18446744073709551615 : Int))) ∧
  (
   ((-9223372036854775808 : Int) ≤ long) ∧
   (long ≤ (9223372036854775807 : Int))) ∧
  ∀ (b_52 : Bool),
  ∀ (e_53 : Int),
  (b_52 = paV gu gh gp gc gl long) →
  (e_53 = paE gu gh gp gc gl long) →
  (e_53 = (0 : Int) ∨ e_53 = (2 : Int) ∨ e_53 = (8 : Int)) →
  (k (AV.bool (bif bif bif bif bif u_1 == u_18 && (h_2 == h_19 && (p_3 == p_20 && (c_4 == c_21 && (l_5 == l_22 && true)))) then e_6 == e_23 else false then v_35 == v_41 else false then e_36 == e_42 else false then b_47 == b_52 else false then e_48 == e_53 else false)) [] []) := by
  refine ⟨by exact ⟨by assumption, by assumption⟩, ?_⟩ -- (-9223372036854775808 : Int) ≤ gh ∧ gh ≤ (9223372036854775807 : Int)
  refine ⟨by exact ⟨by assumption, by assumption⟩, ?_⟩ -- (-9223372036854775808 : Int) ≤ gp ∧ gp ≤ (9223372036854775807 : Int)
  refine ⟨by exact ⟨by assumption, by assumption⟩, ?_⟩ -- (-9223372036854775808 : Int) ≤ gc ∧ gc ≤ (9223372036854775807 : Int)
  refine ⟨by exact ⟨by assumption, by assumption⟩, ?_⟩ -- (0 : Int) ≤ gl ∧ gl ≤ (18446744073709551615 : Int)
  intro u_1
  intro h_2
  intro p_3
  intro c_4
  intro l_5
  intro e_6
  intro h1 -- u_1 = nU gu gh gp gc gl up
  intro h2 -- h_2 = nH gu gh gp gc gl up
  intro h3 -- p_3 = nP gu gh gp gc gl up
  intro h4 -- c_4 = nC gu gh gp gc gl up
  intro h5 -- l_5 = nL gu gh gp gc gl up
  intro h6 -- e_6 = gE gu gh gp gc gl
  intro ⟨a7, b7⟩ -- (0 : Int) ≤ h_2 ∧ h_2 ≤ (1048576 : Int)
  intro ⟨a8, b8⟩ -- (0 : Int) ≤ p_3 ∧ p_3 ≤ (1048576 : Int)
  intro ⟨a9, b9⟩ -- (0 : Int) ≤ c_4 ∧ c_4 ≤ (1073741824 : Int)
  intro ⟨a10, b10⟩ -- (0 : Int) ≤ l_5 ∧ l_5 ≤ (18446744073709551615 : Int)
  intro h11 -- e_6 = (0 : Int) ∨ e_6 = (8 : Int)
  refine ⟨by exact ⟨by assumption, by assumption⟩, ?_⟩ -- (-9223372036854775808 : Int) ≤ gh ∧ gh ≤ (9223372036854775807 : Int)
  refine ⟨by exact ⟨by assumption, by assumption⟩, ?_⟩ -- (-9223372036854775808 : Int) ≤ gp ∧ gp ≤ (9223372036854775807 : Int)
  refine ⟨by exact ⟨by assumption, by assumption⟩, ?_⟩ -- (-9223372036854775808 : Int) ≤ gc ∧ gc ≤ (9223372036854775807 : Int)
  refine ⟨by exact ⟨by assumption, by assumption⟩, ?_⟩ -- (0 : Int) ≤ gl ∧ gl ≤ (18446744073709551615 : Int)
  intro u_18
  intro h_19
  intro p_20
  intro c_21
  intro l_22
  intro e_23
  intro h12 -- u_18 = nU gu gh gp gc gl up
  intro h13 -- h_19 = nH gu gh gp gc gl up
  intro h14 -- p_20 = nP gu gh gp gc gl up
  intro h15 -- c_21 = nC gu gh gp gc gl up
  intro h16 -- l_22 = nL gu gh gp gc gl up
  intro h17 -- e_23 = gE gu gh gp gc gl
  intro ⟨a18, b18⟩ -- (0 : Int) ≤ h_19 ∧ h_19 ≤ (1048576 : Int)
  intro ⟨a19, b19⟩ -- (0 : Int) ≤ p_20 ∧ p_20 ≤ (1048576 : Int)
  intro ⟨a20, b20⟩ -- (0 : Int) ≤ c_21 ∧ c_21 ≤ (1073741824 : Int)
  intro ⟨a21, b21⟩ -- (0 : Int) ≤ l_22 ∧ l_22 ≤ (18446744073709551615 : Int)
  intro h22 -- e_23 = (0 : Int) ∨ e_23 = (8 : Int)
  refine ⟨by exact ⟨by assumption, by assumption⟩, ?_⟩ -- (-9223372036854775808 : Int) ≤ gh ∧ gh ≤ (9223372036854775807 : Int)
  refine ⟨by exact ⟨by assumption, by assumption⟩, ?_⟩ -- (-9223372036854775808 : Int) ≤ gp ∧ gp ≤ (9223372036854775807 : Int)
  refine ⟨by exact ⟨by assumption, by assumption⟩, ?_⟩ -- (-9223372036854775808 : Int) ≤ gc ∧ gc ≤ (9223372036854775807 : Int)
  refine ⟨by exact ⟨by assumption, by assumption⟩, ?_⟩ -- (0 : Int) ≤ gl ∧ gl ≤ (18446744073709551615 : Int)
  refine ⟨by exact ⟨by assumption, by assumption⟩, ?_⟩ -- (-9223372036854775808 : Int) ≤ w ∧ w ≤ (9223372036854775807 : Int)
  intro v_35
  intro e_36
  intro h23 -- v_35 = shV gu gh gp gc gl w
  intro h24 -- e_36 = shE gu gh gp gc gl w
  intro ⟨a25, b25⟩ -- (0 : Int) ≤ v_35 ∧ v_35 ≤ (65536 : Int)
  intro h26 -- e_36 = (0 : Int) ∨ e_36 = (2 : Int) ∨ e_36 = (8 : Int)
  refine ⟨by exact ⟨by assumption, by assumption⟩, ?_⟩ -- (-9223372036854775808 : Int) ≤ gh ∧ gh ≤ (9223372036854775807 : Int)
  refine ⟨by exact ⟨by assumption, by assumption⟩, ?_⟩ -- (-9223372036854775808 : Int) ≤ gp ∧ gp ≤ (9223372036854775807 : Int)
  refine ⟨by exact ⟨by assumption, by assumption⟩, ?_⟩ -- (-9223372036854775808 : Int) ≤ gc ∧ gc ≤ (9223372036854775807 : Int)
  refine ⟨by exact ⟨by assumption, by assumption⟩, ?_⟩ -- (0 : Int) ≤ gl ∧ gl ≤ (18446744073709551615 : Int)
  refine ⟨by exact ⟨by assumption, by assumption⟩, ?_⟩ -- (-9223372036854775808 : Int) ≤ w ∧ w ≤ (9223372036854775807 : Int)
  intro v_41
  intro e_42
  intro h27 -- v_41 = shV gu gh gp gc gl w
  intro h28 -- e_42 = shE gu gh gp gc gl w
  intro ⟨a29, b29⟩ -- (0 : Int) ≤ v_41 ∧ v_41 ≤ (65536 : Int)
  intro h30 -- e_42 = (0 : Int) ∨ e_42 = (2 : Int) ∨ e_42 = (8 : Int)
  refine ⟨by exact ⟨by assumption, by assumption⟩, ?_⟩ -- (-9223372036854775808 : Int) ≤ gh ∧ gh ≤ (9223372036854775807 : Int)
  refine ⟨by exact ⟨by assumption, by assumption⟩, ?_⟩ -- (-9223372036854775808 : Int) ≤ gp ∧ gp ≤ (9223372036854775807 : Int)
  refine ⟨by exact ⟨by assumption, by assumption⟩, ?_⟩ -- (-9223372036854775808 : Int) ≤ gc ∧ gc ≤ (9223372036854775807 : Int)
  refine ⟨by exact ⟨by assumption, by assumption⟩, ?_⟩ -- (0 : Int) ≤ gl ∧ gl ≤ (18446744073709551615 : Int)
  refine ⟨by exact ⟨by assumption, by assumption⟩, ?_⟩ -- (-9223372036854775808 : Int) ≤ long ∧ long ≤ (9223372036854775807 : Int)
  intro b_47
  intro e_48
  intro h31 -- b_47 = paV gu gh gp gc gl long
  intro h32 -- e_48 = paE gu gh gp gc gl long
  intro h33 -- e_48 = (0 : Int) ∨ e_48 = (2 : Int) ∨ e_48 = (8 : Int)
  refine ⟨by exact ⟨by assumption, by assumption⟩, ?_⟩ -- (-9223372036854775808 : Int) ≤ gh ∧ gh ≤ (9223372036854775807 : Int)
  refine ⟨by exact ⟨by assumption, by assumption⟩, ?_⟩ -- (-9223372036854775808 : Int) ≤ gp ∧ gp ≤ (9223372036854775807 : Int)
  refine ⟨by exact ⟨by assumption, by assumption⟩, ?_⟩ -- (-9223372036854775808 : Int) ≤ gc ∧ gc ≤ (9223372036854775807 : Int)
  refine ⟨by exact ⟨by assumption, by assumption⟩, ?_⟩ -- (0 : Int) ≤ gl ∧ gl ≤ (18446744073709551615 : Int)
  refine ⟨by exact ⟨by assumption, by assumption⟩, ?_⟩ -- (-9223372036854775808 : Int) ≤ long ∧ long ≤ (9223372036854775807 : Int)
  intro b_52
  intro e_53
  intro h34 -- b_52 = paV gu gh gp gc gl long
  intro h35 -- e_53 = paE gu gh gp gc gl long
  intro h36 -- e_53 = (0 : Int) ∨ e_53 = (2 : Int) ∨ e_53 = (8 : Int)
  exact by exact k_true hk (by simp only [*]; simp) -- k (AV.bool (bif bif bif bif bif u_1 == u_18 && (h_2 == h_19 && (p_3 == p_20 && (c_4 == c_21 && (l_5 == l_22 && true)))) then e_6 == e_23 else false then v_35 == v_41 else false then e_36 == e_42 else false then b_47 == b_52 else false then e_48 == e_53 else false)) [] []

theorem gapTicks_ok : Holds Try.prog 8 lawTicks := by
  refine fn_sound (env := mkEnv T6) (tab_ok T6_ok) Try.func8 Try.call8 fun args k h => ?_
  match args, h with
  | [.agg [.bool gu, .int .i64 gh, .int .i64 gp, .int .i64 gc, .int .u64 gl], .bool up, .int .i64 w, .int .i64 long], h => exact ⟨by kernel_rfl, fun _ _ => none, fun _ _ => none, .cast (by kernel_rfl) (gapTicks_vc gu gh h.1.1 h.1.2 gp h.2.1.1 h.2.1.2 gc h.2.2.1.1 h.2.2.1.2 gl h.2.2.2.1.1 h.2.2.2.1.2 up w h.2.2.2.2.1.1 h.2.2.2.2.1.2 long h.2.2.2.2.2.1.1 h.2.2.2.2.2.1.2 k h.2.2.2.2.2.2)⟩
set_option maxHeartbeats 2000000 in
theorem gapStays_vc (gu : Bool) (gh : Int) (gh0 : (-9223372036854775808 : Int) ≤ gh) (gh1 : gh ≤ (9223372036854775807 : Int)) (gp : Int) (gp0 : (-9223372036854775808 : Int) ≤ gp) (gp1 : gp ≤ (9223372036854775807 : Int)) (gc : Int) (gc0 : (-9223372036854775808 : Int) ≤ gc) (gc1 : gc ≤ (9223372036854775807 : Int)) (gl : Int) (gl0 : (0 : Int) ≤ gl) (gl1 : gl ≤ (18446744073709551615 : Int)) (up : Bool) (again : Bool) (k : AV → List (Option Blk) → List Blk → Prop) (hk : k (AV.bool true) [] []) :
  (
   ((-9223372036854775808 : Int) ≤ gh) ∧
   (gh ≤ (9223372036854775807 : Int))) ∧
  (
   ((-9223372036854775808 : Int) ≤ gp) ∧
   (gp ≤ (9223372036854775807 : Int))) ∧
  (
   ((-9223372036854775808 : Int) ≤ gc) ∧
   (gc ≤ (9223372036854775807 : Int))) ∧
  (
   ((0 : Int) ≤ gl) ∧
   (gl ≤ (18446744073709551615 : Int))) ∧
  ∀ (u_1 : Bool),
  ∀ (h_2 : Int),
  ∀ (p_3 : Int),
  ∀ (c_4 : Int),
  ∀ (l_5 : Int),
  ∀ (e_6 : Int),
  (u_1 = nU gu gh gp gc gl up) →
  (h_2 = nH gu gh gp gc gl up) →
  (p_3 = nP gu gh gp gc gl up) →
  (c_4 = nC gu gh gp gc gl up) →
  (l_5 = nL gu gh gp gc gl up) →
  (e_6 = gE gu gh gp gc gl) →
  ((0 : Int) ≤ h_2 ∧ h_2 ≤ (1048576 : Int)) →
  ((0 : Int) ≤ p_3 ∧ p_3 ≤ (1048576 : Int)) →
  ((0 : Int) ≤ c_4 ∧ c_4 ≤ (1073741824 : Int)) →
  ((0 : Int) ≤ l_5 ∧ l_5 ≤ (18446744073709551615 : Int)) →
  (e_6 = (0 : Int) ∨ e_6 = (8 : Int)) →
  br (e_6 != (0 : Int))
   ((k (AV.bool (bif bif true then e_6 == (8 : Int) else false then u_1 == false && (h_2 == (0 : Int) && (p_3 == (0 : Int) && (c_4 == (0 : Int) && (l_5 == (0 : Int) && true)))) else false)) [] []))
   ((
     ((-9223372036854775808 : Int) ≤ h_2) ∧
     (h_2 ≤ (9223372036854775807 : Int))) ∧
    (
     ((-9223372036854775808 : Int) ≤ p_3) ∧
     (p_3 ≤ (9223372036854775807 : Int))) ∧
    (
     ((-9223372036854775808 : Int) ≤ c_4) ∧
     (c_4 ≤ (9223372036854775807 : Int))) ∧
    (
     ((0 : Int) ≤ l_5) ∧
     (l_5 ≤ (18446744073709551615 : Int))) ∧
    ∀ (u_18 : Bool),
    ∀ (h_19 : Int),
    ∀ (p_20 : Int),
    ∀ (c_21 : Int),
    ∀ (l_22 : Int),
    ∀ (e_23 : Int),
    (u_18 = nU u_1 h_2 p_3 c_4 l_5 again) →
    (h_19 = nH u_1 h_2 p_3 c_4 l_5 again) →
    (p_20 = nP u_1 h_2 p_3 c_4 l_5 again) →
    (c_21 = nC u_1 h_2 p_3 c_4 l_5 again) →
    (l_22 = nL u_1 h_2 p_3 c_4 l_5 again) →
    (e_23 = gE u_1 h_2 p_3 c_4 l_5) →
    ((0 : Int) ≤ h_19 ∧ h_19 ≤ (1048576 : Int)) →
    ((0 : Int) ≤ p_20 ∧ p_20 ≤ (1048576 : Int)) →
    ((0 : Int) ≤ c_21 ∧ c_21 ≤ (1073741824 : Int)) →
    ((0 : Int) ≤ l_22 ∧ l_22 ≤ (18446744073709551615 : Int)) →
    (e_23 = (0 : Int) ∨ e_23 = (8 : Int)) →
    ∀ (n35 : Int),
    (n35 = h_2) →
    ∀ (n37 : Int),
    (n37 = p_3) →
    ∀ (n39 : Int),
    (n39 = c_4) →
    ∀ (n41 : Int),
    (n41 = c_4) →
    ∀ (n43 : Int),
    (n43 = gc) →
    ∀ (n45 : Int),
    (n45 = l_22) →
    (
     ((bif bif bif bif bif bif bif true then e_23 == (0 : Int) else false then u_1 == up else false then u_18 == again else false then decide (n35 ≤ (1048576 : Int)) else false then decide (n37 ≤ (1048576 : Int)) else false then decide (n39 ≤ (1073741824 : Int)) else false then decide (n41 ≥ n43) else false) = true) →
     ((0 : Int) ≤ (1 : Int))) ∧
    ∀ (n47 : Int),
    (n47 = n45.fdiv ((2 : Int) ^ min (Int.toNat (1 : Int)) IntKind.u64.bits)) →
    ∀ (n49 : Int),
    (n49 = l_5) →
    ∀ (n51 : Int),
    (n51 = bits BinOp.and IntKind.u64 n49 (9223372036854775807 : Int)) →
    (k (AV.bool (bif bif bif bif bif bif bif bif true then e_23 == (0 : Int) else false then u_1 == up else false then u_18 == again else false then decide (n35 ≤ (1048576 : Int)) else false then decide (n37 ≤ (1048576 : Int)) else false then decide (n39 ≤ (1073741824 : Int)) else false then decide (n41 ≥ n43) else false then n47 == n51 else false)) [] [])) := by
  refine ⟨by exact ⟨by assumption, by assumption⟩, ?_⟩ -- (-9223372036854775808 : Int) ≤ gh ∧ gh ≤ (9223372036854775807 : Int)
  refine ⟨by exact ⟨by assumption, by assumption⟩, ?_⟩ -- (-9223372036854775808 : Int) ≤ gp ∧ gp ≤ (9223372036854775807 : Int)
  refine ⟨by exact ⟨by assumption, by assumption⟩, ?_⟩ -- (-9223372036854775808 : Int) ≤ gc ∧ gc ≤ (9223372036854775807 : Int)
  refine ⟨by exact ⟨by assumption, by assumption⟩, ?_⟩ -- (0 : Int) ≤ gl ∧ gl ≤ (18446744073709551615 : Int)
  intro u_1
  intro h_2
  intro p_3
  intro c_4
  intro l_5
  intro e_6
  intro h1 -- u_1 = nU gu gh gp gc gl up
  intro h2 -- h_2 = nH gu gh gp gc gl up
  intro h3 -- p_3 = nP gu gh gp gc gl up
  intro h4 -- c_4 = nC gu gh gp gc gl up
  intro h5 -- l_5 = nL gu gh gp gc gl up
  intro h6 -- e_6 = gE gu gh gp gc gl
  intro ⟨a7, b7⟩ -- (0 : Int) ≤ h_2 ∧ h_2 ≤ (1048576 : Int)
  intro ⟨a8, b8⟩ -- (0 : Int) ≤ p_3 ∧ p_3 ≤ (1048576 : Int)
  intro ⟨a9, b9⟩ -- (0 : Int) ≤ c_4 ∧ c_4 ≤ (1073741824 : Int)
  intro ⟨a10, b10⟩ -- (0 : Int) ≤ l_5 ∧ l_5 ≤ (18446744073709551615 : Int)
  intro h11 -- e_6 = (0 : Int) ∨ e_6 = (8 : Int)
  refine br_intro (fun c12 => ?_) (fun c12 => ?_) -- e_6 != (0 : Int)
  · -- yes
    simp at c12 -- ¬e_6 = (0 : Int)
    -- k (AV.bool (bif bif true then e_6 == (8 : Int) else false then u_1 == false && (h_2 == (0 : Int) && (p_3 == (0 : Int) && (c_4 == (0 : Int) && (l_5 == (0 : Int) && true)))) else false)) [] []
    have nb := next_bad up (by rw [← h6]; exact c12)
    rw [← h1, ← h2, ← h3, ← h4, ← h5] at nb
    rcases h11 with h | h
    · exact absurd h c12
    · exact k_true hk (by simp [nb.1, nb.2.1, nb.2.2.1, nb.2.2.2.1, nb.2.2.2.2.1, h])
  · -- no
    simp at c12 -- e_6 = (0 : Int)
    refine ⟨by first | omega | (dsimp only; omega), ?_⟩ -- (-9223372036854775808 : Int) ≤ h_2 ∧ h_2 ≤ (9223372036854775807 : Int)
    refine ⟨by first | omega | (dsimp only; omega), ?_⟩ -- (-9223372036854775808 : Int) ≤ p_3 ∧ p_3 ≤ (9223372036854775807 : Int)
    refine ⟨by first | omega | (dsimp only; omega), ?_⟩ -- (-9223372036854775808 : Int) ≤ c_4 ∧ c_4 ≤ (9223372036854775807 : Int)
    refine ⟨by exact ⟨by assumption, by assumption⟩, ?_⟩ -- (0 : Int) ≤ l_5 ∧ l_5 ≤ (18446744073709551615 : Int)
    intro u_18
    intro h_19
    intro p_20
    intro c_21
    intro l_22
    intro e_23
    intro h13 -- u_18 = nU u_1 h_2 p_3 c_4 l_5 again
    intro h14 -- h_19 = nH u_1 h_2 p_3 c_4 l_5 again
    intro h15 -- p_20 = nP u_1 h_2 p_3 c_4 l_5 again
    intro h16 -- c_21 = nC u_1 h_2 p_3 c_4 l_5 again
    intro h17 -- l_22 = nL u_1 h_2 p_3 c_4 l_5 again
    intro h18 -- e_23 = gE u_1 h_2 p_3 c_4 l_5
    intro ⟨a19, b19⟩ -- (0 : Int) ≤ h_19 ∧ h_19 ≤ (1048576 : Int)
    intro ⟨a20, b20⟩ -- (0 : Int) ≤ p_20 ∧ p_20 ≤ (1048576 : Int)
    intro ⟨a21, b21⟩ -- (0 : Int) ≤ c_21 ∧ c_21 ≤ (1073741824 : Int)
    intro ⟨a22, b22⟩ -- (0 : Int) ≤ l_22 ∧ l_22 ≤ (18446744073709551615 : Int)
    intro h23 -- e_23 = (0 : Int) ∨ e_23 = (8 : Int)
    intro n35
    intro q35 -- n35 = h_2
    intro n37
    intro q37 -- n37 = p_3
    intro n39
    intro q39 -- n39 = c_4
    intro n41
    intro q41 -- n41 = c_4
    intro n43
    intro q43 -- n43 = gc
    intro n45
    intro q45 -- n45 = l_22
    refine ⟨?_, ?_⟩
    · -- left
      intro q45 -- (bif bif bif bif bif bif bif true then e_23 == (0 : Int) else false then u_1 == up else false then u_18 == again else false then decide (n35 ≤ (1048576 : Int)) else false then decide (n37 ≤ (1048576 : Int)) else false then decide (n39 ≤ (1073741824 : Int)) else false then decide (n41 ≥ n43) else false) = true
      simp at q45 -- (((((e_23 = (0 : Int) ∧ u_1 = up) ∧ u_18 = again) ∧ n35 ≤ (1048576 : Int)) ∧ n37 ≤ (1048576 : Int)) ∧ n39 ≤ (1073741824 : Int)) ∧ n43 ≤ n41
      exact by omega -- (0 : Int) ≤ (1 : Int)
    intro n47
    intro q47 -- n47 = n45.fdiv ((2 : Int) ^ min (Int.toNat (1 : Int)) IntKind.u64.bits)
    rw [show (2 : Int) ^ min (Int.toNat (1 : Int)) IntKind.u64.bits = 2 from rfl, Int.fdiv_eq_ediv_of_nonneg _ (by decide)] at q47
    intro n49
    intro q49 -- n49 = l_5
    intro n51
    intro q51 -- n51 = bits BinOp.and IntKind.u64 n49 (9223372036854775807 : Int)
    rw [and_u64 63 (by decide) 9223372036854775807 9223372036854775808 (by decide) (by decide) _ (by omega) (by omega)] at q51
    -- k (AV.bool (bif bif bif bif bif bif bif bif true then e_23 == (0 : Int) else false then u_1 == up else false then u_18 == again else false then decide (n35 ≤ (1048576 : Int)) else false then decide (n37 ≤ (1048576 : Int)) else false then decide (n39 ≤ (1073741824 : Int)) else false then decide (n41 ≥ n43) else false then n47 == n51 else false)) [] []
    have z : gE gu gh gp gc gl = 0 := by rw [← h6]; exact c12
    have z2 : gE u_1 h_2 p_3 c_4 l_5 = 0 := by
      have := (gN_ok (s := (gu, gh, gp, gc, gl)) up ⟨z, gl0, gl1⟩).1
      rw [h1, h2, h3, h4, h5]; exact this
    obtain ⟨f1, f2, b, hb, f3⟩ := next_fac z up
    obtain ⟨g1, g2, b', hb', g3⟩ := next_fac z2 again
    rw [← h1] at f1
    rw [← h4] at f2
    rw [← h5] at f3
    rw [← h13] at g1
    rw [← h17] at g3
    exact k_true hk (by simp [f1, g1]; omega)

theorem gapStays_ok : Holds Try.prog 4 lawStays := by
  refine fn_sound (env := mkEnv T6) (tab_ok T6_ok) Try.func4 Try.call4 fun args k h => ?_
  match args, h with
  | [.agg [.bool gu, .int .i64 gh, .int .i64 gp, .int .i64 gc, .int .u64 gl], .bool up, .bool again], h => exact ⟨by kernel_rfl, fun _ _ => none, fun _ _ => none, .cast (by kernel_rfl) (gapStays_vc gu gh h.1.1 h.1.2 gp h.2.1.1 h.2.1.2 gc h.2.2.1.1 h.2.2.1.2 gl h.2.2.2.1.1 h.2.2.2.1.2 up again k h.2.2.2.2)⟩
end Go.Proofs.Ytaajleciicgoiaa
namespace Go.Proofs.Ytaajleciicgoiaa
open Go.ChangeShapes Go.WideShapes Go.ChangeAt Go.RowKit Go.Eng
set_option linter.unusedVariables false

theorem ownA : ownKnob Try.prog.godebug = none := by kernel_rfl
theorem laidA : laidOutB Try.prog = true := by kernel_rfl

set_option maxHeartbeats 800000 in
set_option maxRecDepth 100000 in
theorem gapTicksLifted (os : Os) (started : os.Started) (H : Type) (enc : TypeId × Value → H) :
    ReturnsInHanded {} Try.checked os 8 .any (Rows.gapTicksSpec.pre6 enc Try.prog Try.f8 Rows.gapTicksRow.domain false) (Rows.gapTicksSpec.post enc Try.prog Try.f8 false true false false) := by
  refine returnsInHanded_of_change (C := Try.checked) ownA started (by kernel_rfl) Try.func8
    (ChangeSpec.witness6 (enc := enc) (C := Try.checked) false ⟨#[], #[.agg #[.bool false, .int .i64 0, .int .i64 0, .int .i64 0, .int .u64 0], .bool false, .int .i64 0, .int .i64 0], []⟩ 8 (by kernel_rfl) (by kernel_rfl) (by kernel_rfl) (by kernel_rfl)) ?_
  intro W base args ds gs before hval0 hW hcnd _
  have hval : ∀ (j : Nat) t v, Try.f8.params[j]? = some t → args[j]? = some v → Value.okWide Try.prog W .any base t v := hval0
  have hW' := hW
  obtain ⟨p, q, hA0, hV, rfl, hfz, hnd⟩ := hW
  have hA : DataW.TrodAll enc Try.prog W 0 (fun _ => true) true Try.f8.params.toList args.toList ds p := hA0
  rw [Try.params8] at hA hval
  obtain ⟨v0, vs0, d0, ds0, p0, q0, hargs, rfl, rfl, h0, r0⟩ := trodAll_cons hA
  obtain ⟨v1, vs1, d1, ds1, p1, q1, rfl, rfl, rfl, h1, r1⟩ := trodAll_cons r0
  obtain ⟨v2, vs2, d2, ds2, p2, q2, rfl, rfl, rfl, h2, r2⟩ := trodAll_cons r1
  obtain ⟨v3, vs3, d3, ds3, p3, q3, rfl, rfl, rfl, h3, r3⟩ := trodAll_cons r2
  obtain ⟨rfl, rfl, rfl⟩ := trodAll_nil r3
  obtain rfl : args = #[v0, v1, v2, v3] := by cases args; simp_all
  obtain ⟨rfl, rfl⟩ := trodVars_none hV
  have k0 := h0
  have lt0 : ∀ x ∈ p0, x.block < W.heap.size := by obtain ⟨m, hm⟩ := k0; exact DataW.trod_lt m _ _ _ hm
  obtain ⟨fuel0, hf0⟩ := h0
  obtain ⟨cs0, rfl, hsz0, hcs0⟩ := open_scal Try.underlying26 (by kernel_rfl) (by kernel_rfl) (hval 0 26 v0 rfl rfl) hf0
  obtain ⟨c0_0, c0_1, c0_2, c0_3, c0_4, rfl⟩ : ∃ b0 b1 b2 b3 b4, cs0 = #[b0, b1, b2, b3, b4] := by
    exact arr5 hsz0
  obtain ⟨n0_0, y0_0, hy0_0⟩ := hcs0 0 _ _ rfl rfl
  obtain ⟨a0_0, e0_0, -⟩ := DataW.trod_bool Try.underlying4 hy0_0
  obtain rfl : c0_0 = .bool a0_0 := by simpa using e0_0
  obtain ⟨n0_1, y0_1, hy0_1⟩ := hcs0 1 _ _ rfl rfl
  obtain ⟨a0_1, e0_1, -, w0_1⟩ := DataW.trod_int Try.underlying3 hy0_1
  obtain rfl : c0_1 = .int .i64 a0_1 := by simpa using e0_1
  obtain ⟨n0_2, y0_2, hy0_2⟩ := hcs0 2 _ _ rfl rfl
  obtain ⟨a0_2, e0_2, -, w0_2⟩ := DataW.trod_int Try.underlying3 hy0_2
  obtain rfl : c0_2 = .int .i64 a0_2 := by simpa using e0_2
  obtain ⟨n0_3, y0_3, hy0_3⟩ := hcs0 3 _ _ rfl rfl
  obtain ⟨a0_3, e0_3, -, w0_3⟩ := DataW.trod_int Try.underlying3 hy0_3
  obtain rfl : c0_3 = .int .i64 a0_3 := by simpa using e0_3
  obtain ⟨n0_4, y0_4, hy0_4⟩ := hcs0 4 _ _ rfl rfl
  obtain ⟨a0_4, e0_4, -, w0_4⟩ := DataW.trod_int Try.underlying24 hy0_4
  obtain rfl : c0_4 = .int .u64 a0_4 := by simpa using e0_4
  obtain ⟨a1, rfl, rfl, rfl⟩ := open_bool Try.underlying4 (hval 1 4 v1 rfl rfl) h1
  obtain ⟨a2, rfl, rfl, rfl, w2⟩ := open_int Try.underlying3 (hval 2 3 v2 rfl rfl) h2
  obtain ⟨a3, rfl, rfl, rfl, w3⟩ := open_int Try.underlying3 (hval 3 3 v3 rfl rfl) h3
  clear hA0 hval0
  have hk0_1 : kwf .i64 a0_1 := by simpa [Lit.wf, kwf] using w0_1
  have hk0_2 : kwf .i64 a0_2 := by simpa [Lit.wf, kwf] using w0_2
  have hk0_3 : kwf .i64 a0_3 := by simpa [Lit.wf, kwf] using w0_3
  have hk0_4 : kwf .u64 a0_4 := by simpa [Lit.wf, kwf] using w0_4
  have hk2 : kwf .i64 a2 := by simpa [Lit.wf, kwf] using w2
  have hk3 : kwf .i64 a3 := by simpa [Lit.wf, kwf] using w3
  -- PRE: what the spec asks (['hk0_1', 'hk0_2', 'hk0_3', 'hk0_4', 'hk2', 'hk3']), then rfl
  refine (calls_of_holds gapTicks_ok Try.call8 (w := W) (vals := #[.agg #[.bool a0_0, .int .i64 a0_1, .int .i64 a0_2, .int .i64 a0_3, .int .u64 a0_4], .bool a1, .int .i64 a2, .int .i64 a3]) (args := [.agg [.bool a0_0, .int .i64 a0_1, .int .i64 a0_2, .int .i64 a0_3, .int .u64 a0_4], .bool a1, .int .i64 a2, .int .i64 a3]) rfl (fun j v hj => ?_) ⟨hk0_1, hk0_2, hk0_3, hk0_4, hk2, hk3, rfl⟩).mono fun e W' ⟨he, bel⟩ => ?_
  · rcases j with _ | _ | _ | _ | j
    · simp at hj; subst hj; refine .agg rfl (fun j v h => ?_) (fun j v h => ?_) <;> rcases j with _ | _ | _ | _ | _ | j <;> simp at h <;> subst h <;> first | rfl | exact .bool | exact .int (by assumption)
    · simp at hj; subst hj; exact .bool
    · simp at hj; subst hj; exact .int hk2
    · simp at hj; subst hj; exact .int hk3
    · simp at hj
  subst he
  exact ⟨_, rfl, _, _, _, [], _, [], hW', trodAll_mk1 (shut_bool Try.underlying4 _), (trodAll_cons_mk (Below.trod laidA (by kernel_rfl) (of_decide_eq_true (by kernel_rfl)) k0 bel lt0) (trodAll_cons_mk (shut_bool Try.underlying4 _) (trodAll_cons_mk (shut_int Try.underlying3 w2) (trodAll_cons_mk (shut_int Try.underlying3 w3) trodAll_mk0)))), rfl, bel.frame _, fun h => by cases h⟩

theorem gapTicks_said : Rows.GapTicksSaid :=
  OpenClaim.holds_of_wide 8 Try.f8 rfl rfl rfl rfl rfl rfl rfl ⟨rfl, rfl, rfl, rfl, rfl⟩ rfl rfl rfl rfl rfl (by kernel_rfl) Try.func8 (by kernel_rfl)
    (of_decide_eq_true (by kernel_rfl)) (by unfold Func.isWrapper; first | (rw [if_pos (by decide +kernel)]; kernel_rfl) | (rw [if_neg (by decide +kernel)]; exact ⟨rfl, rfl⟩))
    (fun os started H enc _ => gapTicksLifted os started H enc)
#print axioms gapTicks_said
end Go.Proofs.Ytaajleciicgoiaa

namespace Go.Proofs.Ytaajleciicgoiaa
open Go.ChangeShapes Go.WideShapes Go.ChangeAt Go.RowKit Go.Eng
set_option linter.unusedVariables false

theorem ownB : ownKnob Try.prog.godebug = none := by kernel_rfl
theorem laidB : laidOutB Try.prog = true := by kernel_rfl

set_option maxHeartbeats 800000 in
set_option maxRecDepth 100000 in
theorem gapStaysLifted (os : Os) (started : os.Started) (H : Type) (enc : TypeId × Value → H) :
    ReturnsInHanded {} Try.checked os 4 .any (Rows.gapStaysSpec.pre6 enc Try.prog Try.f4 Rows.gapStaysRow.domain false) (Rows.gapStaysSpec.post enc Try.prog Try.f4 false true false false) := by
  refine returnsInHanded_of_change (C := Try.checked) ownB started (by kernel_rfl) Try.func4
    (ChangeSpec.witness6 (enc := enc) (C := Try.checked) false ⟨#[], #[.agg #[.bool false, .int .i64 0, .int .i64 0, .int .i64 0, .int .u64 0], .bool false, .bool false], []⟩ 8 (by kernel_rfl) (by kernel_rfl) (by kernel_rfl) (by kernel_rfl)) ?_
  intro W base args ds gs before hval0 hW hcnd _
  have hval : ∀ (j : Nat) t v, Try.f4.params[j]? = some t → args[j]? = some v → Value.okWide Try.prog W .any base t v := hval0
  have hW' := hW
  obtain ⟨p, q, hA0, hV, rfl, hfz, hnd⟩ := hW
  have hA : DataW.TrodAll enc Try.prog W 0 (fun _ => true) true Try.f4.params.toList args.toList ds p := hA0
  rw [Try.params4] at hA hval
  obtain ⟨v0, vs0, d0, ds0, p0, q0, hargs, rfl, rfl, h0, r0⟩ := trodAll_cons hA
  obtain ⟨v1, vs1, d1, ds1, p1, q1, rfl, rfl, rfl, h1, r1⟩ := trodAll_cons r0
  obtain ⟨v2, vs2, d2, ds2, p2, q2, rfl, rfl, rfl, h2, r2⟩ := trodAll_cons r1
  obtain ⟨rfl, rfl, rfl⟩ := trodAll_nil r2
  obtain rfl : args = #[v0, v1, v2] := by cases args; simp_all
  obtain ⟨rfl, rfl⟩ := trodVars_none hV
  have k0 := h0
  have lt0 : ∀ x ∈ p0, x.block < W.heap.size := by obtain ⟨m, hm⟩ := k0; exact DataW.trod_lt m _ _ _ hm
  obtain ⟨fuel0, hf0⟩ := h0
  obtain ⟨cs0, rfl, hsz0, hcs0⟩ := open_scal Try.underlying26 (by kernel_rfl) (by kernel_rfl) (hval 0 26 v0 rfl rfl) hf0
  obtain ⟨c0_0, c0_1, c0_2, c0_3, c0_4, rfl⟩ : ∃ b0 b1 b2 b3 b4, cs0 = #[b0, b1, b2, b3, b4] := by
    exact arr5 hsz0
  obtain ⟨n0_0, y0_0, hy0_0⟩ := hcs0 0 _ _ rfl rfl
  obtain ⟨a0_0, e0_0, -⟩ := DataW.trod_bool Try.underlying4 hy0_0
  obtain rfl : c0_0 = .bool a0_0 := by simpa using e0_0
  obtain ⟨n0_1, y0_1, hy0_1⟩ := hcs0 1 _ _ rfl rfl
  obtain ⟨a0_1, e0_1, -, w0_1⟩ := DataW.trod_int Try.underlying3 hy0_1
  obtain rfl : c0_1 = .int .i64 a0_1 := by simpa using e0_1
  obtain ⟨n0_2, y0_2, hy0_2⟩ := hcs0 2 _ _ rfl rfl
  obtain ⟨a0_2, e0_2, -, w0_2⟩ := DataW.trod_int Try.underlying3 hy0_2
  obtain rfl : c0_2 = .int .i64 a0_2 := by simpa using e0_2
  obtain ⟨n0_3, y0_3, hy0_3⟩ := hcs0 3 _ _ rfl rfl
  obtain ⟨a0_3, e0_3, -, w0_3⟩ := DataW.trod_int Try.underlying3 hy0_3
  obtain rfl : c0_3 = .int .i64 a0_3 := by simpa using e0_3
  obtain ⟨n0_4, y0_4, hy0_4⟩ := hcs0 4 _ _ rfl rfl
  obtain ⟨a0_4, e0_4, -, w0_4⟩ := DataW.trod_int Try.underlying24 hy0_4
  obtain rfl : c0_4 = .int .u64 a0_4 := by simpa using e0_4
  obtain ⟨a1, rfl, rfl, rfl⟩ := open_bool Try.underlying4 (hval 1 4 v1 rfl rfl) h1
  obtain ⟨a2, rfl, rfl, rfl⟩ := open_bool Try.underlying4 (hval 2 4 v2 rfl rfl) h2
  clear hA0 hval0
  have hk0_1 : kwf .i64 a0_1 := by simpa [Lit.wf, kwf] using w0_1
  have hk0_2 : kwf .i64 a0_2 := by simpa [Lit.wf, kwf] using w0_2
  have hk0_3 : kwf .i64 a0_3 := by simpa [Lit.wf, kwf] using w0_3
  have hk0_4 : kwf .u64 a0_4 := by simpa [Lit.wf, kwf] using w0_4
  -- PRE: what the spec asks (['hk0_1', 'hk0_2', 'hk0_3', 'hk0_4']), then rfl
  refine (calls_of_holds gapStays_ok Try.call4 (w := W) (vals := #[.agg #[.bool a0_0, .int .i64 a0_1, .int .i64 a0_2, .int .i64 a0_3, .int .u64 a0_4], .bool a1, .bool a2]) (args := [.agg [.bool a0_0, .int .i64 a0_1, .int .i64 a0_2, .int .i64 a0_3, .int .u64 a0_4], .bool a1, .bool a2]) rfl (fun j v hj => ?_) ⟨hk0_1, hk0_2, hk0_3, hk0_4, rfl⟩).mono fun e W' ⟨he, bel⟩ => ?_
  · rcases j with _ | _ | _ | j
    · simp at hj; subst hj; refine .agg rfl (fun j v h => ?_) (fun j v h => ?_) <;> rcases j with _ | _ | _ | _ | _ | j <;> simp at h <;> subst h <;> first | rfl | exact .bool | exact .int (by assumption)
    · simp at hj; subst hj; exact .bool
    · simp at hj; subst hj; exact .bool
    · simp at hj
  subst he
  exact ⟨_, rfl, _, _, _, [], _, [], hW', trodAll_mk1 (shut_bool Try.underlying4 _), (trodAll_cons_mk (Below.trod laidB (by kernel_rfl) (of_decide_eq_true (by kernel_rfl)) k0 bel lt0) (trodAll_cons_mk (shut_bool Try.underlying4 _) (trodAll_cons_mk (shut_bool Try.underlying4 _) trodAll_mk0))), rfl, bel.frame _, fun h => by cases h⟩

theorem gapStays_said : Rows.GapStaysSaid :=
  OpenClaim.holds_of_wide 4 Try.f4 rfl rfl rfl rfl rfl rfl rfl ⟨rfl, rfl, rfl, rfl, rfl⟩ rfl rfl rfl rfl rfl (by kernel_rfl) Try.func4 (by kernel_rfl)
    (of_decide_eq_true (by kernel_rfl)) (by unfold Func.isWrapper; first | (rw [if_pos (by decide +kernel)]; kernel_rfl) | (rw [if_neg (by decide +kernel)]; exact ⟨rfl, rfl⟩))
    (fun os started H enc _ => gapStaysLifted os started H enc)
#print axioms gapStays_said
end Go.Proofs.Ytaajleciicgoiaa


namespace Go.Proofs.Ytaajleciicgoiaa
open Go.ChangeShapes Go.WideShapes Go.ChangeAt Go.RowKit Go.Eng
set_option linter.unusedVariables false

theorem ownN : ownKnob Try.prog.godebug = none := by kernel_rfl

set_option maxRecDepth 100000 in
theorem gapNamesLifted (os : Os) (started : os.Started) (H : Type) (enc : TypeId × Value → H) :
    ReturnsInHanded {} Try.checked os 7 .any (Rows.gapNamesSpec.pre6 enc Try.prog Try.f7 Rows.gapNamesRow.domain false) (Rows.gapNamesSpec.post enc Try.prog Try.f7 false true false false) := by
  refine returnsInHanded_of_change (C := Try.checked) ownN started (by kernel_rfl) Try.func7
    (ChangeSpec.witness6 (enc := enc) (C := Try.checked) false ⟨#[], #[], []⟩ 8 (by kernel_rfl) (by kernel_rfl) (by kernel_rfl) (by kernel_rfl)) ?_
  intro W base args ds gs before hval0 hW hcnd _
  have hW' := hW
  obtain ⟨p, q, hA0, hV, rfl, hfz, hnd⟩ := hW
  have hA : DataW.TrodAll enc Try.prog W 0 (fun _ => true) true Try.f7.params.toList args.toList ds p := hA0
  rw [Try.params7] at hA
  obtain ⟨hargs, rfl, rfl⟩ := trodAll_nil hA
  obtain rfl : args = #[] := by cases args; simp_all
  obtain ⟨rfl, rfl⟩ := trodVars_none hV
  clear hA0 hval0
  refine (calls_of_holds gapNames_ok Try.call7 (w := W) (vals := #[]) (args := []) rfl (fun j v hj => by simp at hj) rfl).mono fun e W' ⟨he, bel⟩ => ?_
  subst he
  exact ⟨_, rfl, _, _, _, [], _, [], hW', trodAll_mk1 (shut_bool Try.underlying4 _), trodAll_mk0, rfl, bel.frame _, fun h => by cases h⟩

theorem gapNames_said : Rows.GapNamesSaid :=
  OpenClaim.holds_of_wide 7 Try.f7 rfl rfl rfl rfl rfl rfl rfl ⟨rfl, rfl, rfl, rfl, rfl⟩ rfl rfl rfl rfl rfl (by kernel_rfl) Try.func7 (by kernel_rfl)
    (of_decide_eq_true (by kernel_rfl)) (by unfold Func.isWrapper; first | (rw [if_pos (by decide +kernel)]; kernel_rfl) | (rw [if_neg (by decide +kernel)]; exact ⟨rfl, rfl⟩))
    (fun os started H enc _ => gapNamesLifted os started H enc)
#print axioms gapNames_said
end Go.Proofs.Ytaajleciicgoiaa


