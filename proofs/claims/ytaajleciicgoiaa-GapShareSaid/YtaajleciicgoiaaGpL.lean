/- GapPast, GapShare: a gap is past just when nothing has stood there for that long; the share of the last ticks is how many of them something stood there. Any ticks. No conditions beyond the rows' own. -/
import Derived.Test.YtaajleciicgoiaaGpK
import Derived.Test.YtaajleciicgoiaaEngR
import Derived.Test.YtaajleciicgoiaaRows
namespace Go.Proofs.Ytaajleciicgoiaa
open Go Go.Eng Go.Fx Go.Proofs
set_option linter.unusedVariables false
set_option maxHeartbeats 2000000 in
theorem gapPast_vc (xs : List Bool) (long : Int) (long0 : (-9223372036854775808 : Int) ≤ long) (long1 : long ≤ (9223372036854775807 : Int)) (short : Int) (short0 : (-9223372036854775808 : Int) ≤ short) (short1 : short ≤ (9223372036854775807 : Int)) (k : AV → List (Option Blk) → List Blk → Prop) (hk : k (AV.bool true) [] []) :
  ∀ (n1 : Int),
  (n1 = (↑xs.length : Int)) →
  ((-9223372036854775808 : Int) ≤ n1 ∧ n1 ≤ (9223372036854775807 : Int)) →
  ∀ (n4 : Int),
  (n4 = (↑xs.length : Int)) →
  br (bif bif bif bif decide (n1 > (400 : Int)) then true else decide (n4 < (1 : Int)) then true else decide (long < short) then true else decide (short < (0 : Int)) then true else decide (long > (1048576 : Int)))
   ((k (AV.bool true) [] []))
   (∀ (u_6 : Bool),
    ∀ (h_7 : Int),
    ∀ (p_8 : Int),
    ∀ (c_9 : Int),
    ∀ (l_10 : Int),
    ((u_6, h_7, p_8, c_9, l_10) = gS xs) →
    ((0 : Int) ≤ h_7 ∧ h_7 ≤ (1048576 : Int)) →
    ((0 : Int) ≤ p_8 ∧ p_8 ≤ (1048576 : Int)) →
    ((0 : Int) ≤ c_9 ∧ c_9 ≤ (1073741824 : Int)) →
    ((0 : Int) ≤ l_10 ∧ l_10 ≤ (18446744073709551615 : Int)) →
    (
     ((-9223372036854775808 : Int) ≤ h_7) ∧
     (h_7 ≤ (9223372036854775807 : Int))) ∧
    (
     ((-9223372036854775808 : Int) ≤ p_8) ∧
     (p_8 ≤ (9223372036854775807 : Int))) ∧
    (
     ((-9223372036854775808 : Int) ≤ c_9) ∧
     (c_9 ≤ (9223372036854775807 : Int))) ∧
    (
     ((0 : Int) ≤ l_10) ∧
     (l_10 ≤ (18446744073709551615 : Int))) ∧
    (
     ((-9223372036854775808 : Int) ≤ long) ∧
     (long ≤ (9223372036854775807 : Int))) ∧
    ∀ (b_16 : Bool),
    ∀ (e_17 : Int),
    (b_16 = paV u_6 h_7 p_8 c_9 l_10 long) →
    (e_17 = paE u_6 h_7 p_8 c_9 l_10 long) →
    (e_17 = (0 : Int) ∨ e_17 = (2 : Int) ∨ e_17 = (8 : Int)) →
    (
     ((-9223372036854775808 : Int) ≤ h_7) ∧
     (h_7 ≤ (9223372036854775807 : Int))) ∧
    (
     ((-9223372036854775808 : Int) ≤ p_8) ∧
     (p_8 ≤ (9223372036854775807 : Int))) ∧
    (
     ((-9223372036854775808 : Int) ≤ c_9) ∧
     (c_9 ≤ (9223372036854775807 : Int))) ∧
    (
     ((0 : Int) ≤ l_10) ∧
     (l_10 ≤ (18446744073709551615 : Int))) ∧
    (
     ((-9223372036854775808 : Int) ≤ short) ∧
     (short ≤ (9223372036854775807 : Int))) ∧
    ∀ (b_21 : Bool),
    ∀ (e_22 : Int),
    (b_21 = paV u_6 h_7 p_8 c_9 l_10 short) →
    (e_22 = paE u_6 h_7 p_8 c_9 l_10 short) →
    (e_22 = (0 : Int) ∨ e_22 = (2 : Int) ∨ e_22 = (8 : Int)) →
    ∀ (n26 : Int),
    (n26 = (↑xs.length : Int)) →
    ((-9223372036854775808 : Int) ≤ n26 ∧ n26 ≤ (9223372036854775807 : Int)) →
    ∀ (n29 : Int),
    (n29 = IntKind.i64.wrap (n26 - (1 : Int))) →
    ((-9223372036854775808 : Int) ≤ n29 ∧ n29 ≤ (9223372036854775807 : Int)) →
    (
     ∃ (v : Int × Int),
     (xs = xs) ∧
     (long = long) ∧
     (short = short) ∧
     (true = true) ∧
     (true = true) ∧
     (b_16 = paVx xs long) ∧
     (e_17 = paEx xs long) ∧
     (b_21 = paVx xs short) ∧
     (e_22 = paEx xs short) ∧
     ((0 : Int) = v.fst) ∧
     (n29 = v.snd) ∧
     (
      ((-1 : Int) ≤ v.snd) ∧
      (v.snd < (↑xs.length : Int))) ∧
     (v.fst = (↑xs.length : Int) - (1 : Int) - v.snd) ∧
     ∀ (j_32 : Nat),
     (v.snd < (↑j_32 : Int)) →
     (j_32 < xs.length) →
     (xs[j_32]?.getD false = false)) ∧
    ∀ (v_35 : Int × Int),
    (((-1 : Int) ≤ v_35.snd ∧ v_35.snd < (↑xs.length : Int)) ∧ v_35.fst = (↑xs.length : Int) - (1 : Int) - v_35.snd ∧ ∀ (j : Nat), v_35.snd < (↑j : Int) → j < xs.length → xs[j]?.getD false = false) →
    (
     (decide (v_35.snd ≥ (0 : Int)) = true) →
     ((0 : Int) ≤ v_35.snd) ∧
     (v_35.snd < (↑xs.length : Int))) ∧
    br (bif decide (v_35.snd ≥ (0 : Int)) then !xs.getD v_35.snd.toNat false else false)
     (∀ (n38 : Int),
      (n38 = IntKind.i64.wrap (v_35.fst + (1 : Int))) →
      ((-9223372036854775808 : Int) ≤ n38 ∧ n38 ≤ (9223372036854775807 : Int)) →
      ∀ (n41 : Int),
      (n41 = IntKind.i64.wrap (v_35.snd - (1 : Int))) →
      ((-9223372036854775808 : Int) ≤ n41 ∧ n41 ≤ (9223372036854775807 : Int)) →
      ∃ (v' : Int × Int),
      (xs = xs) ∧
      (long = long) ∧
      (short = short) ∧
      (true = true) ∧
      (true = true) ∧
      (paVx xs long = paVx xs long) ∧
      (paEx xs long = paEx xs long) ∧
      (paVx xs short = paVx xs short) ∧
      (paEx xs short = paEx xs short) ∧
      (n38 = v'.fst) ∧
      (n41 = v'.snd) ∧
      (
       (
        ((-1 : Int) ≤ v'.snd) ∧
        (v'.snd < (↑xs.length : Int))) ∧
       (v'.fst = (↑xs.length : Int) - (1 : Int) - v'.snd) ∧
       ∀ (j_44 : Nat),
       (v'.snd < (↑j_44 : Int)) →
       (j_44 < xs.length) →
       (xs[j_44]?.getD false = false)) ∧
      ((v'.snd + (1 : Int)).toNat < (v_35.snd + (1 : Int)).toNat))
     (∀ (n47 : Int),
      (n47 = (↑xs.length : Int)) →
      ((-9223372036854775808 : Int) ≤ n47 ∧ n47 ≤ (9223372036854775807 : Int)) →
      ∀ (n50 : Int),
      (n50 = IntKind.i64.wrap (n47 - (1 : Int))) →
      ((-9223372036854775808 : Int) ≤ n50 ∧ n50 ≤ (9223372036854775807 : Int)) →
      ((0 : Int) ≤ n50) ∧
      (n50 < (↑xs.length : Int)) ∧
      (k (AV.bool (bif bif bif bif bif bif true then true else false then paEx xs long == (0 : Int) else false then paEx xs short == (0 : Int) else false then paVx xs long == bif !xs.getD n50.toNat false then decide (v_35.fst ≥ long) else false else false then paVx xs short == bif !xs.getD n50.toNat false then decide (v_35.fst ≥ short) else false else false then bif !paVx xs long then true else paVx xs short else false)) [] []))) := by
  intro n1
  intro q1 -- n1 = (↑xs.length : Int)
  intro ⟨l1, u1⟩ -- (-9223372036854775808 : Int) ≤ n1 ∧ n1 ≤ (9223372036854775807 : Int)
  intro n4
  intro q4 -- n4 = (↑xs.length : Int)
  refine br_intro (fun c1 => ?_) (fun c1 => ?_) -- bif bif bif bif decide (n1 > (400 : Int)) then true else decide (n4 < (1 : Int)) then true else decide (long < short) then true else decide (short < (0 : Int)) then true else decide (long > (1048576 : Int))
  · -- yes
    simp at c1 -- ((((400 : Int) < n1 ∨ n4 < (1 : Int)) ∨ long < short) ∨ short < (0 : Int)) ∨ (1048576 : Int) < long
    exact by exact hk -- k (AV.bool true) [] []
  · -- no
    simp at c1 -- (((n1 ≤ (400 : Int) ∧ (1 : Int) ≤ n4) ∧ short ≤ long) ∧ (0 : Int) ≤ short) ∧ long ≤ (1048576 : Int)
    intro u_6
    intro h_7
    intro p_8
    intro c_9
    intro l_10
    intro h2 -- (u_6, h_7, p_8, c_9, l_10) = gS xs
    intro ⟨a3, b3⟩ -- (0 : Int) ≤ h_7 ∧ h_7 ≤ (1048576 : Int)
    intro ⟨a4, b4⟩ -- (0 : Int) ≤ p_8 ∧ p_8 ≤ (1048576 : Int)
    intro ⟨a5, b5⟩ -- (0 : Int) ≤ c_9 ∧ c_9 ≤ (1073741824 : Int)
    intro ⟨a6, b6⟩ -- (0 : Int) ≤ l_10 ∧ l_10 ≤ (18446744073709551615 : Int)
    refine ⟨by first | omega | (dsimp only; omega), ?_⟩ -- (-9223372036854775808 : Int) ≤ h_7 ∧ h_7 ≤ (9223372036854775807 : Int)
    refine ⟨by first | omega | (dsimp only; omega), ?_⟩ -- (-9223372036854775808 : Int) ≤ p_8 ∧ p_8 ≤ (9223372036854775807 : Int)
    refine ⟨by first | omega | (dsimp only; omega), ?_⟩ -- (-9223372036854775808 : Int) ≤ c_9 ∧ c_9 ≤ (9223372036854775807 : Int)
    refine ⟨by exact ⟨by assumption, by assumption⟩, ?_⟩ -- (0 : Int) ≤ l_10 ∧ l_10 ≤ (18446744073709551615 : Int)
    refine ⟨by exact ⟨by assumption, by assumption⟩, ?_⟩ -- (-9223372036854775808 : Int) ≤ long ∧ long ≤ (9223372036854775807 : Int)
    intro b_16
    intro e_17
    intro h7 -- b_16 = paV u_6 h_7 p_8 c_9 l_10 long
    intro h8 -- e_17 = paE u_6 h_7 p_8 c_9 l_10 long
    intro h9 -- e_17 = (0 : Int) ∨ e_17 = (2 : Int) ∨ e_17 = (8 : Int)
    refine ⟨by first | omega | (dsimp only; omega), ?_⟩ -- (-9223372036854775808 : Int) ≤ h_7 ∧ h_7 ≤ (9223372036854775807 : Int)
    refine ⟨by first | omega | (dsimp only; omega), ?_⟩ -- (-9223372036854775808 : Int) ≤ p_8 ∧ p_8 ≤ (9223372036854775807 : Int)
    refine ⟨by first | omega | (dsimp only; omega), ?_⟩ -- (-9223372036854775808 : Int) ≤ c_9 ∧ c_9 ≤ (9223372036854775807 : Int)
    refine ⟨by exact ⟨by assumption, by assumption⟩, ?_⟩ -- (0 : Int) ≤ l_10 ∧ l_10 ≤ (18446744073709551615 : Int)
    refine ⟨by exact ⟨by assumption, by assumption⟩, ?_⟩ -- (-9223372036854775808 : Int) ≤ short ∧ short ≤ (9223372036854775807 : Int)
    intro b_21
    intro e_22
    intro h10 -- b_21 = paV u_6 h_7 p_8 c_9 l_10 short
    intro h11 -- e_22 = paE u_6 h_7 p_8 c_9 l_10 short
    intro h12 -- e_22 = (0 : Int) ∨ e_22 = (2 : Int) ∨ e_22 = (8 : Int)
    intro n26
    intro q26 -- n26 = (↑xs.length : Int)
    intro ⟨l26, u26⟩ -- (-9223372036854775808 : Int) ≤ n26 ∧ n26 ≤ (9223372036854775807 : Int)
    intro n29
    intro q29 -- n29 = IntKind.i64.wrap (n26 - (1 : Int))
    rw [IntKind.wrap_i64] at q29
    intro ⟨l29, u29⟩ -- (-9223372036854775808 : Int) ≤ n29 ∧ n29 ≤ (9223372036854775807 : Int)
    refine ⟨?_, ?_⟩
    · -- left
      refine ⟨((0 : Int), n29), ?_⟩
      refine ⟨by first | with_reducible rfl | rfl, ?_⟩ -- xs = xs
      refine ⟨by first | with_reducible rfl | rfl, ?_⟩ -- long = long
      refine ⟨by first | with_reducible rfl | rfl, ?_⟩ -- short = short
      refine ⟨by first | with_reducible rfl | rfl, ?_⟩ -- true = true
      refine ⟨by first | with_reducible rfl | rfl, ?_⟩ -- true = true
      have h13 : b_16 = paVx xs long := by
        rw [h7]; unfold paVx; rw [← h2]
      refine ⟨h13, ?_⟩
      have h14 : e_17 = paEx xs long := by
        rw [h8]; unfold paEx; rw [← h2]
      refine ⟨h14, ?_⟩
      have h15 : b_21 = paVx xs short := by
        rw [h10]; unfold paVx; rw [← h2]
      refine ⟨h15, ?_⟩
      have h16 : e_22 = paEx xs short := by
        rw [h11]; unfold paEx; rw [← h2]
      refine ⟨h16, ?_⟩
      refine ⟨by first | with_reducible rfl | rfl, ?_⟩ -- (0 : Int) = (0 : Int)
      refine ⟨by first | with_reducible rfl | rfl, ?_⟩ -- n29 = n29
      refine ⟨by first | omega | (dsimp only; omega), ?_⟩ -- (-1 : Int) ≤ n29 ∧ n29 < (↑xs.length : Int)
      refine ⟨by show (0 : Int) = (↑xs.length : Int) - (1 : Int) - n29; omega, ?_⟩ -- (0 : Int) = (↑xs.length : Int) - (1 : Int) - n29
      intro j_32
      intro h17 -- n29 < (↑j_32 : Int)
      intro h18 -- j_32 < xs.length
      exact by show xs[j_32]?.getD false = false; omega -- xs[j_32]?.getD false = false
    intro v_35
    intro h19 -- ((-1 : Int) ≤ v_35.snd ∧ v_35.snd < (↑xs.length : Int)) ∧ v_35.fst = (↑xs.length : Int) - (1 : Int) - v_35.snd ∧ ∀ (j : Nat), v_35.snd < (↑j : Int) → j < xs.length → xs[j]?.getD false = false
    refine ⟨?_, ?_⟩
    · -- left
      intro h20 -- decide (v_35.snd ≥ (0 : Int)) = true
      simp at h20 -- (0 : Int) ≤ v_35.snd
      refine ⟨by assumption, ?_⟩ -- (0 : Int) ≤ v_35.snd
      exact by omega -- v_35.snd < (↑xs.length : Int)
    refine br_intro (fun c21 => ?_) (fun c21 => ?_) -- bif decide (v_35.snd ≥ (0 : Int)) then !xs.getD v_35.snd.toNat false else false
    · -- yes
      simp at c21 -- (0 : Int) ≤ v_35.snd ∧ xs[v_35.snd.toNat]?.getD false = false
      intro n38
      intro q38 -- n38 = IntKind.i64.wrap (v_35.fst + (1 : Int))
      rw [IntKind.wrap_i64] at q38
      intro ⟨l38, u38⟩ -- (-9223372036854775808 : Int) ≤ n38 ∧ n38 ≤ (9223372036854775807 : Int)
      intro n41
      intro q41 -- n41 = IntKind.i64.wrap (v_35.snd - (1 : Int))
      rw [IntKind.wrap_i64] at q41
      intro ⟨l41, u41⟩ -- (-9223372036854775808 : Int) ≤ n41 ∧ n41 ≤ (9223372036854775807 : Int)
      refine ⟨(n38, n41), ?_⟩
      refine ⟨by first | with_reducible rfl | rfl, ?_⟩ -- xs = xs
      refine ⟨by first | with_reducible rfl | rfl, ?_⟩ -- long = long
      refine ⟨by first | with_reducible rfl | rfl, ?_⟩ -- short = short
      refine ⟨by first | with_reducible rfl | rfl, ?_⟩ -- true = true
      refine ⟨by first | with_reducible rfl | rfl, ?_⟩ -- true = true
      refine ⟨by first | with_reducible rfl | rfl, ?_⟩ -- paVx xs long = paVx xs long
      refine ⟨by first | with_reducible rfl | rfl, ?_⟩ -- paEx xs long = paEx xs long
      refine ⟨by first | with_reducible rfl | rfl, ?_⟩ -- paVx xs short = paVx xs short
      refine ⟨by first | with_reducible rfl | rfl, ?_⟩ -- paEx xs short = paEx xs short
      refine ⟨by first | with_reducible rfl | rfl, ?_⟩ -- n38 = n38
      refine ⟨by first | with_reducible rfl | rfl, ?_⟩ -- n41 = n41
      refine ⟨?_, ?_⟩
      · -- left
        refine ⟨by first | omega | (dsimp only; omega), ?_⟩ -- (-1 : Int) ≤ n41 ∧ n41 < (↑xs.length : Int)
        refine ⟨by show n38 = (↑xs.length : Int) - (1 : Int) - n41; omega, ?_⟩ -- n38 = (↑xs.length : Int) - (1 : Int) - n41
        intro j_44
        intro h22 -- n41 < (↑j_44 : Int)
        intro h23 -- j_44 < xs.length
        -- xs[j_44]?.getD false = false
        exact allF_next (i := v_35.snd) (n := n41) h19.2.2 c21.1 c21.2 (by omega) j_44 h22 h23
      exact by show (n41 + (1 : Int)).toNat < (v_35.snd + (1 : Int)).toNat; omega -- (n41 + (1 : Int)).toNat < (v_35.snd + (1 : Int)).toNat
    · -- no
      simp at c21 -- (0 : Int) ≤ v_35.snd → xs[v_35.snd.toNat]?.getD false = true
      intro n47
      intro q47 -- n47 = (↑xs.length : Int)
      intro ⟨l47, u47⟩ -- (-9223372036854775808 : Int) ≤ n47 ∧ n47 ≤ (9223372036854775807 : Int)
      intro n50
      intro q50 -- n50 = IntKind.i64.wrap (n47 - (1 : Int))
      rw [IntKind.wrap_i64] at q50
      intro ⟨l50, u50⟩ -- (-9223372036854775808 : Int) ≤ n50 ∧ n50 ≤ (9223372036854775807 : Int)
      refine ⟨by first | omega | (dsimp only; omega), ?_⟩ -- (0 : Int) ≤ n50
      refine ⟨by first | omega | (dsimp only; omega), ?_⟩ -- n50 < (↑xs.length : Int)
      -- k (AV.bool (bif bif bif bif bif bif true then true else false then paEx xs long == (0 : Int) else false then paEx xs short == (0 : Int) else false then paVx xs long == bif !xs.getD n50.toNat false then decide (v_35.fst ≥ long) else false else false then paVx xs short == bif !xs.getD n50.toNat false then decide (v_35.fst ≥ short) else false else false then bif !paVx xs long then true else paVx xs short else false)) [] []
      have P1 := pa_at (xs := xs) (w := long) (by omega)
      have P2 := pa_at (xs := xs) (w := short) (by omega)
      have E := past_end (xs := xs) (i := v_35.snd) (run := v_35.fst) (m := n50) (by omega) (by omega) h19.2.2 c21 (by omega) (by omega)
      rcases E with E | E
      · rw [E.2] at P1 P2
        exact k_true hk (by simp [paVx, paEx, P1.1, P1.2, P2.1, P2.2, E.1, E.2])
      · rw [E.2.1, E.2.2] at P1 P2
        exact k_true hk (by simp [paVx, paEx, P1.1, P1.2, P2.1, P2.2, E.1, E.2.1, E.2.2]; omega)

theorem gapPast_ok : Holds Try.prog 5 lawBools2 := by
  refine fn_sound (env := mkEnv T6) (tab_ok T6_ok) Try.func5 Try.call5 fun args k h => ?_
  match args, h with
  | [.sl 4 xs, .int .i64 long, .int .i64 short], h => exact ⟨by kernel_rfl, pastLoops xs long short, fun _ _ => none, .cast (by kernel_rfl) (gapPast_vc xs long h.1.1 h.1.2 short h.2.1.1 h.2.1.2 k h.2.2)⟩
set_option maxHeartbeats 2000000 in
theorem gapShare_vc (xs : List Bool) (w : Int) (w0 : (-9223372036854775808 : Int) ≤ w) (w1 : w ≤ (9223372036854775807 : Int)) (k : AV → List (Option Blk) → List Blk → Prop) (hk : k (AV.bool true) [] []) :
  ∀ (n1 : Int),
  (n1 = (↑xs.length : Int)) →
  ((-9223372036854775808 : Int) ≤ n1 ∧ n1 ≤ (9223372036854775807 : Int)) →
  br (bif bif decide (n1 > (400 : Int)) then true else decide (w < (1 : Int)) then true else decide (w > (64 : Int)))
   ((k (AV.bool true) [] []))
   (∀ (u_4 : Bool),
    ∀ (h_5 : Int),
    ∀ (p_6 : Int),
    ∀ (c_7 : Int),
    ∀ (l_8 : Int),
    ((u_4, h_5, p_6, c_7, l_8) = gS xs) →
    ((0 : Int) ≤ h_5 ∧ h_5 ≤ (1048576 : Int)) →
    ((0 : Int) ≤ p_6 ∧ p_6 ≤ (1048576 : Int)) →
    ((0 : Int) ≤ c_7 ∧ c_7 ≤ (1073741824 : Int)) →
    ((0 : Int) ≤ l_8 ∧ l_8 ≤ (18446744073709551615 : Int)) →
    (
     ((-9223372036854775808 : Int) ≤ h_5) ∧
     (h_5 ≤ (9223372036854775807 : Int))) ∧
    (
     ((-9223372036854775808 : Int) ≤ p_6) ∧
     (p_6 ≤ (9223372036854775807 : Int))) ∧
    (
     ((-9223372036854775808 : Int) ≤ c_7) ∧
     (c_7 ≤ (9223372036854775807 : Int))) ∧
    (
     ((0 : Int) ≤ l_8) ∧
     (l_8 ≤ (18446744073709551615 : Int))) ∧
    (
     ((-9223372036854775808 : Int) ≤ w) ∧
     (w ≤ (9223372036854775807 : Int))) ∧
    ∀ (v_14 : Int),
    ∀ (e_15 : Int),
    (v_14 = shV u_4 h_5 p_6 c_7 l_8 w) →
    (e_15 = shE u_4 h_5 p_6 c_7 l_8 w) →
    ((0 : Int) ≤ v_14 ∧ v_14 ≤ (65536 : Int)) →
    (e_15 = (0 : Int) ∨ e_15 = (2 : Int) ∨ e_15 = (8 : Int)) →
    ∀ (n20 : Int),
    (n20 = (↑xs.length : Int)) →
    ((-9223372036854775808 : Int) ≤ n20 ∧ n20 ≤ (9223372036854775807 : Int)) →
    ∀ (n23 : Int),
    (n23 = IntKind.i64.wrap (n20 - w)) →
    ((-9223372036854775808 : Int) ≤ n23 ∧ n23 ≤ (9223372036854775807 : Int)) →
    ∀ (n26 : Int),
    (n26 = max (0 : Int) n23) →
    ((-9223372036854775808 : Int) ≤ n26 ∧ n26 ≤ (9223372036854775807 : Int)) →
    (
     ∃ (v : Int × Int),
     (xs = xs) ∧
     (w = w) ∧
     (true = true) ∧
     (true = true) ∧
     (v_14 = shVx xs w) ∧
     (e_15 = shEx xs w) ∧
     ((0 : Int) = v.fst) ∧
     (n26 = v.snd) ∧
     (
      (max (0 : Int) ((↑xs.length : Int) - w) ≤ v.snd) ∧
      (v.snd ≤ (↑xs.length : Int))) ∧
     (
      ((0 : Int) ≤ v.fst) ∧
      (v.fst ≤ v.snd)) ∧
     (v.fst = trI xs (max (0 : Int) ((↑xs.length : Int) - w)) v.snd)) ∧
    ∀ (v_29 : Int × Int),
    ((max (0 : Int) ((↑xs.length : Int) - w) ≤ v_29.snd ∧ v_29.snd ≤ (↑xs.length : Int)) ∧ ((0 : Int) ≤ v_29.fst ∧ v_29.fst ≤ v_29.snd) ∧ v_29.fst = trI xs (max (0 : Int) ((↑xs.length : Int) - w)) v_29.snd) →
    ∀ (n31 : Int),
    (n31 = (↑xs.length : Int)) →
    ((-9223372036854775808 : Int) ≤ n31 ∧ n31 ≤ (9223372036854775807 : Int)) →
    br (decide (v_29.snd < n31))
     (((0 : Int) ≤ v_29.snd) ∧
      (v_29.snd < (↑xs.length : Int)) ∧
      br (xs.getD v_29.snd.toNat false)
       (∀ (n34 : Int),
        (n34 = IntKind.i64.wrap (v_29.fst + (1 : Int))) →
        ((-9223372036854775808 : Int) ≤ n34 ∧ n34 ≤ (9223372036854775807 : Int)) →
        ∀ (n37 : Int),
        (n37 = IntKind.i64.wrap (v_29.snd + (1 : Int))) →
        ((-9223372036854775808 : Int) ≤ n37 ∧ n37 ≤ (9223372036854775807 : Int)) →
        ∃ (v' : Int × Int),
        (xs = xs) ∧
        (w = w) ∧
        (true = true) ∧
        (true = true) ∧
        (shVx xs w = shVx xs w) ∧
        (shEx xs w = shEx xs w) ∧
        (n34 = v'.fst) ∧
        (n37 = v'.snd) ∧
        (
         (
          (max (0 : Int) ((↑xs.length : Int) - w) ≤ v'.snd) ∧
          (v'.snd ≤ (↑xs.length : Int))) ∧
         (
          ((0 : Int) ≤ v'.fst) ∧
          (v'.fst ≤ v'.snd)) ∧
         (v'.fst = trI xs (max (0 : Int) ((↑xs.length : Int) - w)) v'.snd)) ∧
        (((↑xs.length : Int) - v'.snd).toNat < ((↑xs.length : Int) - v_29.snd).toNat))
       (∀ (n40 : Int),
        (n40 = IntKind.i64.wrap (v_29.snd + (1 : Int))) →
        ((-9223372036854775808 : Int) ≤ n40 ∧ n40 ≤ (9223372036854775807 : Int)) →
        ∃ (v' : Int × Int),
        (xs = xs) ∧
        (w = w) ∧
        (true = true) ∧
        (true = true) ∧
        (shVx xs w = shVx xs w) ∧
        (shEx xs w = shEx xs w) ∧
        (v_29.fst = v'.fst) ∧
        (n40 = v'.snd) ∧
        (
         (
          (max (0 : Int) ((↑xs.length : Int) - w) ≤ v'.snd) ∧
          (v'.snd ≤ (↑xs.length : Int))) ∧
         (
          ((0 : Int) ≤ v'.fst) ∧
          (v'.fst ≤ v'.snd)) ∧
         (v'.fst = trI xs (max (0 : Int) ((↑xs.length : Int) - w)) v'.snd)) ∧
        (((↑xs.length : Int) - v'.snd).toNat < ((↑xs.length : Int) - v_29.snd).toNat)))
     (∀ (n43 : Int),
      (n43 = IntKind.i64.wrap (shVx xs w * w)) →
      ∀ (n45 : Int),
      (n45 = IntKind.i64.wrap (v_29.fst * (65536 : Int))) →
      ∀ (n47 : Int),
      (n47 = IntKind.i64.wrap (shVx xs w + (1 : Int))) →
      ∀ (n49 : Int),
      (n49 = IntKind.i64.wrap (n47 * w)) →
      ∀ (n51 : Int),
      (n51 = IntKind.i64.wrap (v_29.fst * (65536 : Int))) →
      (k (AV.bool (bif bif bif bif bif bif true then true else false then shEx xs w == (0 : Int) else false then decide (shVx xs w ≥ (0 : Int)) else false then decide (shVx xs w ≤ (65536 : Int)) else false then decide (n43 ≤ n45) else false then decide (n49 > n51) else false)) [] []))) := by
  intro n1
  intro q1 -- n1 = (↑xs.length : Int)
  intro ⟨l1, u1⟩ -- (-9223372036854775808 : Int) ≤ n1 ∧ n1 ≤ (9223372036854775807 : Int)
  refine br_intro (fun c1 => ?_) (fun c1 => ?_) -- bif bif decide (n1 > (400 : Int)) then true else decide (w < (1 : Int)) then true else decide (w > (64 : Int))
  · -- yes
    simp at c1 -- ((400 : Int) < n1 ∨ w < (1 : Int)) ∨ (64 : Int) < w
    exact by exact hk -- k (AV.bool true) [] []
  · -- no
    simp at c1 -- (n1 ≤ (400 : Int) ∧ (1 : Int) ≤ w) ∧ w ≤ (64 : Int)
    intro u_4
    intro h_5
    intro p_6
    intro c_7
    intro l_8
    intro h2 -- (u_4, h_5, p_6, c_7, l_8) = gS xs
    intro ⟨a3, b3⟩ -- (0 : Int) ≤ h_5 ∧ h_5 ≤ (1048576 : Int)
    intro ⟨a4, b4⟩ -- (0 : Int) ≤ p_6 ∧ p_6 ≤ (1048576 : Int)
    intro ⟨a5, b5⟩ -- (0 : Int) ≤ c_7 ∧ c_7 ≤ (1073741824 : Int)
    intro ⟨a6, b6⟩ -- (0 : Int) ≤ l_8 ∧ l_8 ≤ (18446744073709551615 : Int)
    refine ⟨by first | omega | (dsimp only; omega), ?_⟩ -- (-9223372036854775808 : Int) ≤ h_5 ∧ h_5 ≤ (9223372036854775807 : Int)
    refine ⟨by first | omega | (dsimp only; omega), ?_⟩ -- (-9223372036854775808 : Int) ≤ p_6 ∧ p_6 ≤ (9223372036854775807 : Int)
    refine ⟨by first | omega | (dsimp only; omega), ?_⟩ -- (-9223372036854775808 : Int) ≤ c_7 ∧ c_7 ≤ (9223372036854775807 : Int)
    refine ⟨by exact ⟨by assumption, by assumption⟩, ?_⟩ -- (0 : Int) ≤ l_8 ∧ l_8 ≤ (18446744073709551615 : Int)
    refine ⟨by exact ⟨by assumption, by assumption⟩, ?_⟩ -- (-9223372036854775808 : Int) ≤ w ∧ w ≤ (9223372036854775807 : Int)
    intro v_14
    intro e_15
    intro h7 -- v_14 = shV u_4 h_5 p_6 c_7 l_8 w
    intro h8 -- e_15 = shE u_4 h_5 p_6 c_7 l_8 w
    intro ⟨a9, b9⟩ -- (0 : Int) ≤ v_14 ∧ v_14 ≤ (65536 : Int)
    intro h10 -- e_15 = (0 : Int) ∨ e_15 = (2 : Int) ∨ e_15 = (8 : Int)
    intro n20
    intro q20 -- n20 = (↑xs.length : Int)
    intro ⟨l20, u20⟩ -- (-9223372036854775808 : Int) ≤ n20 ∧ n20 ≤ (9223372036854775807 : Int)
    intro n23
    intro q23 -- n23 = IntKind.i64.wrap (n20 - w)
    rw [IntKind.wrap_i64] at q23
    intro ⟨l23, u23⟩ -- (-9223372036854775808 : Int) ≤ n23 ∧ n23 ≤ (9223372036854775807 : Int)
    intro n26
    intro q26 -- n26 = max (0 : Int) n23
    intro ⟨l26, u26⟩ -- (-9223372036854775808 : Int) ≤ n26 ∧ n26 ≤ (9223372036854775807 : Int)
    refine ⟨?_, ?_⟩
    · -- left
      refine ⟨((0 : Int), n26), ?_⟩
      refine ⟨by first | with_reducible rfl | rfl, ?_⟩ -- xs = xs
      refine ⟨by first | with_reducible rfl | rfl, ?_⟩ -- w = w
      refine ⟨by first | with_reducible rfl | rfl, ?_⟩ -- true = true
      refine ⟨by first | with_reducible rfl | rfl, ?_⟩ -- true = true
      have h11 : v_14 = shVx xs w := by
        rw [h7]; unfold shVx; rw [← h2]
      refine ⟨h11, ?_⟩
      have h12 : e_15 = shEx xs w := by
        rw [h8]; unfold shEx; rw [← h2]
      refine ⟨h12, ?_⟩
      refine ⟨by first | with_reducible rfl | rfl, ?_⟩ -- (0 : Int) = (0 : Int)
      refine ⟨by first | with_reducible rfl | rfl, ?_⟩ -- n26 = n26
      refine ⟨by first | omega | (dsimp only; omega), ?_⟩ -- max (0 : Int) ((↑xs.length : Int) - w) ≤ n26 ∧ n26 ≤ (↑xs.length : Int)
      refine ⟨by first | omega | (dsimp only; omega), ?_⟩ -- (0 : Int) ≤ (0 : Int) ∧ (0 : Int) ≤ n26
      -- (0 : Int) = trI xs (max (0 : Int) ((↑xs.length : Int) - w)) n26
      rw [show n26 = max 0 ((xs.length : Int) - w) by omega]; exact (trI_start _ _).symm
    intro v_29
    intro h13 -- (max (0 : Int) ((↑xs.length : Int) - w) ≤ v_29.snd ∧ v_29.snd ≤ (↑xs.length : Int)) ∧ ((0 : Int) ≤ v_29.fst ∧ v_29.fst ≤ v_29.snd) ∧ v_29.fst = trI xs (max (0 : Int) ((↑xs.length : Int) - w)) v_29.snd
    intro n31
    intro q31 -- n31 = (↑xs.length : Int)
    intro ⟨l31, u31⟩ -- (-9223372036854775808 : Int) ≤ n31 ∧ n31 ≤ (9223372036854775807 : Int)
    refine brd (fun c14 => ?_) (fun c14 => ?_) -- decide (v_29.snd < n31)
    · -- yes
      refine ⟨by first | omega | (dsimp only; omega), ?_⟩ -- (0 : Int) ≤ v_29.snd
      refine ⟨by first | omega | (dsimp only; omega), ?_⟩ -- v_29.snd < (↑xs.length : Int)
      refine br_intro (fun c15 => ?_) (fun c15 => ?_) -- xs.getD v_29.snd.toNat false
      · -- yes
        simp at c15 -- xs[v_29.snd.toNat]?.getD false = true
        intro n34
        intro q34 -- n34 = IntKind.i64.wrap (v_29.fst + (1 : Int))
        rw [IntKind.wrap_i64] at q34
        intro ⟨l34, u34⟩ -- (-9223372036854775808 : Int) ≤ n34 ∧ n34 ≤ (9223372036854775807 : Int)
        intro n37
        intro q37 -- n37 = IntKind.i64.wrap (v_29.snd + (1 : Int))
        rw [IntKind.wrap_i64] at q37
        intro ⟨l37, u37⟩ -- (-9223372036854775808 : Int) ≤ n37 ∧ n37 ≤ (9223372036854775807 : Int)
        refine ⟨(n34, n37), ?_⟩
        refine ⟨by first | with_reducible rfl | rfl, ?_⟩ -- xs = xs
        refine ⟨by first | with_reducible rfl | rfl, ?_⟩ -- w = w
        refine ⟨by first | with_reducible rfl | rfl, ?_⟩ -- true = true
        refine ⟨by first | with_reducible rfl | rfl, ?_⟩ -- true = true
        refine ⟨by first | with_reducible rfl | rfl, ?_⟩ -- shVx xs w = shVx xs w
        refine ⟨by first | with_reducible rfl | rfl, ?_⟩ -- shEx xs w = shEx xs w
        refine ⟨by first | with_reducible rfl | rfl, ?_⟩ -- n34 = n34
        refine ⟨by first | with_reducible rfl | rfl, ?_⟩ -- n37 = n37
        refine ⟨?_, ?_⟩
        · -- left
          refine ⟨by first | omega | (dsimp only; omega), ?_⟩ -- max (0 : Int) ((↑xs.length : Int) - w) ≤ n37 ∧ n37 ≤ (↑xs.length : Int)
          refine ⟨by first | omega | (dsimp only; omega), ?_⟩ -- (0 : Int) ≤ n34 ∧ n34 ≤ n37
          -- n34 = trI xs (max (0 : Int) ((↑xs.length : Int) - w)) n37
          have t := trI_next (xs := xs) (s := max 0 ((xs.length : Int) - w)) (i := v_29.snd) (n := n37) (by omega) (by omega) (by omega)
          rw [c15, if_pos rfl] at t
          (try dsimp only)
          omega
        exact by show ((↑xs.length : Int) - n37).toNat < ((↑xs.length : Int) - v_29.snd).toNat; omega -- ((↑xs.length : Int) - n37).toNat < ((↑xs.length : Int) - v_29.snd).toNat
      · -- no
        simp at c15 -- xs[v_29.snd.toNat]?.getD false = false
        intro n40
        intro q40 -- n40 = IntKind.i64.wrap (v_29.snd + (1 : Int))
        rw [IntKind.wrap_i64] at q40
        intro ⟨l40, u40⟩ -- (-9223372036854775808 : Int) ≤ n40 ∧ n40 ≤ (9223372036854775807 : Int)
        refine ⟨(v_29.fst, n40), ?_⟩
        refine ⟨by first | with_reducible rfl | rfl, ?_⟩ -- xs = xs
        refine ⟨by first | with_reducible rfl | rfl, ?_⟩ -- w = w
        refine ⟨by first | with_reducible rfl | rfl, ?_⟩ -- true = true
        refine ⟨by first | with_reducible rfl | rfl, ?_⟩ -- true = true
        refine ⟨by first | with_reducible rfl | rfl, ?_⟩ -- shVx xs w = shVx xs w
        refine ⟨by first | with_reducible rfl | rfl, ?_⟩ -- shEx xs w = shEx xs w
        refine ⟨by first | with_reducible rfl | rfl, ?_⟩ -- v_29.fst = v_29.fst
        refine ⟨by first | with_reducible rfl | rfl, ?_⟩ -- n40 = n40
        refine ⟨?_, ?_⟩
        · -- left
          refine ⟨by first | omega | (dsimp only; omega), ?_⟩ -- max (0 : Int) ((↑xs.length : Int) - w) ≤ n40 ∧ n40 ≤ (↑xs.length : Int)
          refine ⟨by first | omega | (dsimp only; omega), ?_⟩ -- (0 : Int) ≤ v_29.fst ∧ v_29.fst ≤ n40
          -- v_29.fst = trI xs (max (0 : Int) ((↑xs.length : Int) - w)) n40
          have t := trI_next (xs := xs) (s := max 0 ((xs.length : Int) - w)) (i := v_29.snd) (n := n40) (by omega) (by omega) (by omega)
          rw [c15, if_neg (by decide)] at t
          (try dsimp only)
          omega
        exact by show ((↑xs.length : Int) - n40).toNat < ((↑xs.length : Int) - v_29.snd).toNat; omega -- ((↑xs.length : Int) - n40).toNat < ((↑xs.length : Int) - v_29.snd).toNat
    · -- no
      intro n43
      intro q43 -- n43 = IntKind.i64.wrap (shVx xs w * w)
      rw [IntKind.wrap_i64] at q43
      intro n45
      intro q45 -- n45 = IntKind.i64.wrap (v_29.fst * (65536 : Int))
      rw [IntKind.wrap_i64] at q45
      intro n47
      intro q47 -- n47 = IntKind.i64.wrap (shVx xs w + (1 : Int))
      rw [IntKind.wrap_i64] at q47
      intro n49
      intro q49 -- n49 = IntKind.i64.wrap (n47 * w)
      rw [IntKind.wrap_i64] at q49
      intro n51
      intro q51 -- n51 = IntKind.i64.wrap (v_29.fst * (65536 : Int))
      rw [IntKind.wrap_i64] at q51
      -- k (AV.bool (bif bif bif bif bif bif true then true else false then shEx xs w == (0 : Int) else false then decide (shVx xs w ≥ (0 : Int)) else false then decide (shVx xs w ≤ (65536 : Int)) else false then decide (n43 ≤ n45) else false then decide (n49 > n51) else false)) [] []
      have ev : v_29.snd = xs.length := by omega
      have et := h13.2.2
      rw [ev] at et
      have SE := share_end (xs := xs) (w := w) (s := max 0 ((xs.length : Int) - w)) (by omega) rfl
      rw [← et] at SE
      have hv : v_14 = shVx xs w := by rw [h7]; unfold shVx; rw [← h2]
      have hE : shEx xs w = 0 := SE.2.1
      have IQ := share_ineq (t := v_29.fst) (w := w) (x := shVx xs w) (by omega) SE.1
      have e47 : n47 = shVx xs w + 1 := by omega
      have e : (shVx xs w + 1) * w = shVx xs w * w + w := by rw [Int.add_mul, Int.one_mul]
      rw [e47, e] at q49
      rw [e] at IQ
      have z : 0 ≤ shVx xs w * w := Int.mul_nonneg (by omega) (by omega)
      have z2 := SE.2.2
      have f43 : n43 = shVx xs w * w := by omega
      have f49 : n49 = shVx xs w * w + w := by omega
      have f45 : n45 = v_29.fst * 65536 := by omega
      have f51 : n51 = v_29.fst * 65536 := by omega
      exact k_true hk (by simp [hE]; omega)

theorem gapShare_ok : Holds Try.prog 6 lawBools1 := by
  refine fn_sound (env := mkEnv T6) (tab_ok T6_ok) Try.func6 Try.call6 fun args k h => ?_
  match args, h with
  | [.sl 4 xs, .int .i64 w], h => exact ⟨by kernel_rfl, shareLoops xs w, fun _ _ => none, .cast (by kernel_rfl) (gapShare_vc xs w h.1.1 h.1.2 k h.2)⟩
end Go.Proofs.Ytaajleciicgoiaa
namespace Go.Proofs.Ytaajleciicgoiaa
open Go.ChangeShapes Go.WideShapes Go.ChangeAt Go.RowKit Go.Eng
set_option linter.unusedVariables false

theorem ownA : ownKnob Try.prog.godebug = none := by kernel_rfl
theorem laidA : laidOutB Try.prog = true := by kernel_rfl

set_option maxHeartbeats 800000 in
set_option maxRecDepth 100000 in
theorem gapPastLifted (os : Os) (started : os.Started) (H : Type) (enc : TypeId × Value → H) :
    ReturnsInHanded {} Try.checked os 5 .any (Rows.gapPastSpec.pre6 enc Try.prog Try.f5 Rows.gapPastRow.domain false) (Rows.gapPastSpec.post enc Try.prog Try.f5 false true false false) := by
  refine returnsInHanded_of_change (C := Try.checked) ownA started (by kernel_rfl) Try.func5
    (ChangeSpec.witness6 (enc := enc) (C := Try.checked) false ⟨#[], #[.slice none 0 0, .int .i64 0, .int .i64 0], []⟩ 8 (by kernel_rfl) (by kernel_rfl) (by kernel_rfl) (by kernel_rfl)) ?_
  intro W base args ds gs before hval0 hW hcnd _
  have hval : ∀ (j : Nat) t v, Try.f5.params[j]? = some t → args[j]? = some v → Value.okWide Try.prog W .any base t v := hval0
  have hW' := hW
  obtain ⟨p, q, hA0, hV, rfl, hfz, hnd⟩ := hW
  have hA : DataW.TrodAll enc Try.prog W 0 (fun _ => true) true Try.f5.params.toList args.toList ds p := hA0
  rw [Try.params5] at hA hval
  obtain ⟨v0, vs0, d0, ds0, p0, q0, hargs, rfl, rfl, h0, r0⟩ := trodAll_cons hA
  obtain ⟨v1, vs1, d1, ds1, p1, q1, rfl, rfl, rfl, h1, r1⟩ := trodAll_cons r0
  obtain ⟨v2, vs2, d2, ds2, p2, q2, rfl, rfl, rfl, h2, r2⟩ := trodAll_cons r1
  obtain ⟨rfl, rfl, rfl⟩ := trodAll_nil r2
  obtain rfl : args = #[v0, v1, v2] := by cases args; simp_all
  obtain ⟨rfl, rfl⟩ := trodVars_none hV
  have k0 := h0
  have lt0 : ∀ x ∈ p0, x.block < W.heap.size := by obtain ⟨m, hm⟩ := k0; exact DataW.trod_lt m _ _ _ hm
  obtain ⟨xs0, w0⟩ : ∃ xs : List Bool, Rep W (· < W.heap.size) noIds v0 (.sl 4 xs) := by
    obtain ⟨fuel, hf⟩ := h0
    exact rep_bools Try.underlying22 Try.underlying4 (by kernel_rfl) (hval 0 22 v0 rfl rfl) hf
  obtain ⟨a1, rfl, rfl, rfl, w1⟩ := open_int Try.underlying3 (hval 1 3 v1 rfl rfl) h1
  obtain ⟨a2, rfl, rfl, rfl, w2⟩ := open_int Try.underlying3 (hval 2 3 v2 rfl rfl) h2
  clear hA0 hval0
  have hk1 : kwf .i64 a1 := by simpa [Lit.wf, kwf] using w1
  have hk2 : kwf .i64 a2 := by simpa [Lit.wf, kwf] using w2
  -- PRE: what the spec asks (['hk1', 'hk2']), then rfl
  refine (calls_of_holds gapPast_ok Try.call5 (w := W) (vals := #[v0, .int .i64 a1, .int .i64 a2]) (args := [.sl 4 xs0, .int .i64 a1, .int .i64 a2]) rfl (fun j v hj => ?_) ⟨hk1, hk2, rfl⟩).mono fun e W' ⟨he, bel⟩ => ?_
  · rcases j with _ | _ | _ | j
    · simp at hj; subst hj; exact w0
    · simp at hj; subst hj; exact .int hk1
    · simp at hj; subst hj; exact .int hk2
    · simp at hj
  subst he
  exact ⟨_, rfl, _, _, _, [], _, [], hW', trodAll_mk1 (shut_bool Try.underlying4 _), (trodAll_cons_mk (Below.trod laidA (by kernel_rfl) (of_decide_eq_true (by kernel_rfl)) k0 bel lt0) (trodAll_cons_mk (shut_int Try.underlying3 w1) (trodAll_cons_mk (shut_int Try.underlying3 w2) trodAll_mk0))), rfl, bel.frame _, fun h => by cases h⟩

theorem gapPast_said : Rows.GapPastSaid :=
  OpenClaim.holds_of_wide 5 Try.f5 rfl rfl rfl rfl rfl rfl rfl ⟨rfl, rfl, rfl, rfl, rfl⟩ rfl rfl rfl rfl rfl (by kernel_rfl) Try.func5 (by kernel_rfl)
    (of_decide_eq_true (by kernel_rfl)) (by unfold Func.isWrapper; first | (rw [if_pos (by decide +kernel)]; kernel_rfl) | (rw [if_neg (by decide +kernel)]; exact ⟨rfl, rfl⟩))
    (fun os started H enc _ => gapPastLifted os started H enc)
#print axioms gapPast_said
end Go.Proofs.Ytaajleciicgoiaa

namespace Go.Proofs.Ytaajleciicgoiaa
open Go.ChangeShapes Go.WideShapes Go.ChangeAt Go.RowKit Go.Eng
set_option linter.unusedVariables false

theorem ownB : ownKnob Try.prog.godebug = none := by kernel_rfl
theorem laidB : laidOutB Try.prog = true := by kernel_rfl

set_option maxHeartbeats 800000 in
set_option maxRecDepth 100000 in
theorem gapShareLifted (os : Os) (started : os.Started) (H : Type) (enc : TypeId × Value → H) :
    ReturnsInHanded {} Try.checked os 6 .any (Rows.gapShareSpec.pre6 enc Try.prog Try.f6 Rows.gapShareRow.domain false) (Rows.gapShareSpec.post enc Try.prog Try.f6 false true false false) := by
  refine returnsInHanded_of_change (C := Try.checked) ownB started (by kernel_rfl) Try.func6
    (ChangeSpec.witness6 (enc := enc) (C := Try.checked) false ⟨#[], #[.slice none 0 0, .int .i64 0], []⟩ 8 (by kernel_rfl) (by kernel_rfl) (by kernel_rfl) (by kernel_rfl)) ?_
  intro W base args ds gs before hval0 hW hcnd _
  have hval : ∀ (j : Nat) t v, Try.f6.params[j]? = some t → args[j]? = some v → Value.okWide Try.prog W .any base t v := hval0
  have hW' := hW
  obtain ⟨p, q, hA0, hV, rfl, hfz, hnd⟩ := hW
  have hA : DataW.TrodAll enc Try.prog W 0 (fun _ => true) true Try.f6.params.toList args.toList ds p := hA0
  rw [Try.params6] at hA hval
  obtain ⟨v0, vs0, d0, ds0, p0, q0, hargs, rfl, rfl, h0, r0⟩ := trodAll_cons hA
  obtain ⟨v1, vs1, d1, ds1, p1, q1, rfl, rfl, rfl, h1, r1⟩ := trodAll_cons r0
  obtain ⟨rfl, rfl, rfl⟩ := trodAll_nil r1
  obtain rfl : args = #[v0, v1] := by cases args; simp_all
  obtain ⟨rfl, rfl⟩ := trodVars_none hV
  have k0 := h0
  have lt0 : ∀ x ∈ p0, x.block < W.heap.size := by obtain ⟨m, hm⟩ := k0; exact DataW.trod_lt m _ _ _ hm
  obtain ⟨xs0, w0⟩ : ∃ xs : List Bool, Rep W (· < W.heap.size) noIds v0 (.sl 4 xs) := by
    obtain ⟨fuel, hf⟩ := h0
    exact rep_bools Try.underlying22 Try.underlying4 (by kernel_rfl) (hval 0 22 v0 rfl rfl) hf
  obtain ⟨a1, rfl, rfl, rfl, w1⟩ := open_int Try.underlying3 (hval 1 3 v1 rfl rfl) h1
  clear hA0 hval0
  have hk1 : kwf .i64 a1 := by simpa [Lit.wf, kwf] using w1
  -- PRE: what the spec asks (['hk1']), then rfl
  refine (calls_of_holds gapShare_ok Try.call6 (w := W) (vals := #[v0, .int .i64 a1]) (args := [.sl 4 xs0, .int .i64 a1]) rfl (fun j v hj => ?_) ⟨hk1, rfl⟩).mono fun e W' ⟨he, bel⟩ => ?_
  · rcases j with _ | _ | j
    · simp at hj; subst hj; exact w0
    · simp at hj; subst hj; exact .int hk1
    · simp at hj
  subst he
  exact ⟨_, rfl, _, _, _, [], _, [], hW', trodAll_mk1 (shut_bool Try.underlying4 _), (trodAll_cons_mk (Below.trod laidB (by kernel_rfl) (of_decide_eq_true (by kernel_rfl)) k0 bel lt0) (trodAll_cons_mk (shut_int Try.underlying3 w1) trodAll_mk0)), rfl, bel.frame _, fun h => by cases h⟩

theorem gapShare_said : Rows.GapShareSaid :=
  OpenClaim.holds_of_wide 6 Try.f6 rfl rfl rfl rfl rfl rfl rfl ⟨rfl, rfl, rfl, rfl, rfl⟩ rfl rfl rfl rfl rfl (by kernel_rfl) Try.func6 (by kernel_rfl)
    (of_decide_eq_true (by kernel_rfl)) (by unfold Func.isWrapper; first | (rw [if_pos (by decide +kernel)]; kernel_rfl) | (rw [if_neg (by decide +kernel)]; exact ⟨rfl, rfl⟩))
    (fun os started H enc _ => gapShareLifted os started H enc)
#print axioms gapShare_said
end Go.Proofs.Ytaajleciicgoiaa


