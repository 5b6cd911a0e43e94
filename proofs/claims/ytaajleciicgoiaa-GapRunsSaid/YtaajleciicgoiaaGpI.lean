/- GapRuns: from nothing on, as many came as there are runs; Held and Open are the last run's length. Any ticks. No conditions beyond the row's own. -/
import Derived.Test.YtaajleciicgoiaaGpG
import Derived.Test.YtaajleciicgoiaaEngR
import Derived.Test.YtaajleciicgoiaaRows
namespace Go.Proofs.Ytaajleciicgoiaa
open Go Go.Eng Go.Fx Go.Proofs
set_option linter.unusedVariables false
set_option maxHeartbeats 2000000 in
theorem gapRuns_vc (xs : List Bool) (k : AV → List (Option Blk) → List Blk → Prop) (hk : k (AV.bool true) [] []) :
  ∀ (n1 : Int),
  (n1 = (↑xs.length : Int)) →
  ((-9223372036854775808 : Int) ≤ n1 ∧ n1 ≤ (9223372036854775807 : Int)) →
  br (decide (n1 > (400 : Int)))
   ((k (AV.bool true) [] []))
   (∀ (u_4 : Bool),
    ∀ (h_5 : Int),
    ∀ (p_6 : Int),
    ∀ (c_7 : Int),
    ∀ (l_8 : Int),
    ((u_4, h_5, p_6, c_7, l_8) = gS xs) →
    ((0 : Int) ≤ h_5 ∧ h_5 ≤ (1048576 : Int)) →
    ((0 : Int) ≤ p_6 ∧ p_6 ≤ (1048576 : Int)) →
    ((0 : Int) ≤ c_7 ∧ c_7 ≤ (1073741824 : Int)) →
    ((0 : Int) ≤ l_8 ∧ l_8 ≤ (18446744073709551615 : Int)) →
    (
     ∃ (v : Int × Int × Int),
     (xs = xs) ∧
     (true = true) ∧
     ((0 : Int) = v.snd.fst) ∧
     ((0 : Int) = v.snd.snd) ∧
     ((0 : Int) = v.fst) ∧
     (u_4 = (gS xs).fst) ∧
     (h_5 = (gS xs).snd.fst) ∧
     (p_6 = (gS xs).snd.snd.fst) ∧
     (c_7 = (gS xs).snd.snd.snd.fst) ∧
     (l_8 = (gS xs).snd.snd.snd.snd) ∧
     (
      ((0 : Int) ≤ v.fst) ∧
      (v.fst ≤ (↑xs.length : Int))) ∧
     (
      ((0 : Int) ≤ v.snd.fst) ∧
      (v.snd.fst ≤ v.fst)) ∧
     (
      ((0 : Int) ≤ v.snd.snd) ∧
      (v.snd.snd ≤ v.fst)) ∧
     (v.snd.fst = (rS (List.take v.fst.toNat xs)).snd.fst) ∧
     (v.snd.snd = (rS (List.take v.fst.toNat xs)).snd.snd)) ∧
    ∀ (v_14 : Int × Int × Int),
    (((0 : Int) ≤ v_14.fst ∧ v_14.fst ≤ (↑xs.length : Int)) ∧ ((0 : Int) ≤ v_14.snd.fst ∧ v_14.snd.fst ≤ v_14.fst) ∧ ((0 : Int) ≤ v_14.snd.snd ∧ v_14.snd.snd ≤ v_14.fst) ∧ v_14.snd.fst = (rS (List.take v_14.fst.toNat xs)).snd.fst ∧ v_14.snd.snd = (rS (List.take v_14.fst.toNat xs)).snd.snd) →
    ∀ (n16 : Int),
    (n16 = (↑xs.length : Int)) →
    ((-9223372036854775808 : Int) ≤ n16 ∧ n16 ≤ (9223372036854775807 : Int)) →
    br (decide (v_14.fst < n16))
     (((0 : Int) ≤ v_14.fst) ∧
      (v_14.fst < (↑xs.length : Int)) ∧
      ∀ (n19 : Int),
      (n19 = IntKind.i64.wrap (v_14.fst - (1 : Int))) →
      (
       ((v_14.fst == (0 : Int)) = false ∧ xs.getD v_14.fst.toNat false = true) →
       ((0 : Int) ≤ n19) ∧
       (n19 < (↑xs.length : Int))) ∧
      br (bif xs.getD v_14.fst.toNat false then bif v_14.fst == (0 : Int) then true else !xs.getD n19.toNat false else false)
       (∀ (n22 : Int),
        (n22 = IntKind.i64.wrap (v_14.snd.fst + (1 : Int))) →
        ((-9223372036854775808 : Int) ≤ n22 ∧ n22 ≤ (9223372036854775807 : Int)) →
        ∀ (n25 : Int),
        (n25 = IntKind.i64.wrap (v_14.snd.snd + (1 : Int))) →
        ((-9223372036854775808 : Int) ≤ n25 ∧ n25 ≤ (9223372036854775807 : Int)) →
        (
         (decide (v_14.fst > (0 : Int)) = true) →
         ((0 : Int) ≤ v_14.fst) ∧
         (v_14.fst < (↑xs.length : Int))) ∧
        ∀ (n29 : Int),
        (n29 = IntKind.i64.wrap (v_14.fst - (1 : Int))) →
        (
         (decide (v_14.fst > (0 : Int)) = true) →
         ((0 : Int) ≤ n29) ∧
         (n29 < (↑xs.length : Int))) ∧
        br (bif decide (v_14.fst > (0 : Int)) then !xs.getD v_14.fst.toNat false == xs.getD n29.toNat false else false)
         (∀ (n32 : Int),
          (n32 = IntKind.i64.wrap (v_14.fst + (1 : Int))) →
          ((-9223372036854775808 : Int) ≤ n32 ∧ n32 ≤ (9223372036854775807 : Int)) →
          ∃ (v' : Int × Int × Int),
          (xs = xs) ∧
          (true = true) ∧
          (n22 = v'.snd.fst) ∧
          ((1 : Int) = v'.snd.snd) ∧
          (n32 = v'.fst) ∧
          ((gS xs).fst = (gS xs).fst) ∧
          ((gS xs).snd.fst = (gS xs).snd.fst) ∧
          ((gS xs).snd.snd.fst = (gS xs).snd.snd.fst) ∧
          ((gS xs).snd.snd.snd.fst = (gS xs).snd.snd.snd.fst) ∧
          ((gS xs).snd.snd.snd.snd = (gS xs).snd.snd.snd.snd) ∧
          (
           (
            ((0 : Int) ≤ v'.fst) ∧
            (v'.fst ≤ (↑xs.length : Int))) ∧
           (
            ((0 : Int) ≤ v'.snd.fst) ∧
            (v'.snd.fst ≤ v'.fst)) ∧
           (
            ((0 : Int) ≤ v'.snd.snd) ∧
            (v'.snd.snd ≤ v'.fst)) ∧
           (v'.snd.fst = (rS (List.take v'.fst.toNat xs)).snd.fst) ∧
           (v'.snd.snd = (rS (List.take v'.fst.toNat xs)).snd.snd)) ∧
          (((↑xs.length : Int) - v'.fst).toNat < ((↑xs.length : Int) - v_14.fst).toNat))
         (∀ (n35 : Int),
          (n35 = IntKind.i64.wrap (v_14.fst + (1 : Int))) →
          ((-9223372036854775808 : Int) ≤ n35 ∧ n35 ≤ (9223372036854775807 : Int)) →
          ∃ (v' : Int × Int × Int),
          (xs = xs) ∧
          (true = true) ∧
          (n22 = v'.snd.fst) ∧
          (n25 = v'.snd.snd) ∧
          (n35 = v'.fst) ∧
          ((gS xs).fst = (gS xs).fst) ∧
          ((gS xs).snd.fst = (gS xs).snd.fst) ∧
          ((gS xs).snd.snd.fst = (gS xs).snd.snd.fst) ∧
          ((gS xs).snd.snd.snd.fst = (gS xs).snd.snd.snd.fst) ∧
          ((gS xs).snd.snd.snd.snd = (gS xs).snd.snd.snd.snd) ∧
          (
           (
            ((0 : Int) ≤ v'.fst) ∧
            (v'.fst ≤ (↑xs.length : Int))) ∧
           (
            ((0 : Int) ≤ v'.snd.fst) ∧
            (v'.snd.fst ≤ v'.fst)) ∧
           (
            ((0 : Int) ≤ v'.snd.snd) ∧
            (v'.snd.snd ≤ v'.fst)) ∧
           (v'.snd.fst = (rS (List.take v'.fst.toNat xs)).snd.fst) ∧
           (v'.snd.snd = (rS (List.take v'.fst.toNat xs)).snd.snd)) ∧
          (((↑xs.length : Int) - v'.fst).toNat < ((↑xs.length : Int) - v_14.fst).toNat)))
       (∀ (n38 : Int),
        (n38 = IntKind.i64.wrap (v_14.snd.snd + (1 : Int))) →
        ((-9223372036854775808 : Int) ≤ n38 ∧ n38 ≤ (9223372036854775807 : Int)) →
        (
         (decide (v_14.fst > (0 : Int)) = true) →
         ((0 : Int) ≤ v_14.fst) ∧
         (v_14.fst < (↑xs.length : Int))) ∧
        ∀ (n42 : Int),
        (n42 = IntKind.i64.wrap (v_14.fst - (1 : Int))) →
        (
         (decide (v_14.fst > (0 : Int)) = true) →
         ((0 : Int) ≤ n42) ∧
         (n42 < (↑xs.length : Int))) ∧
        br (bif decide (v_14.fst > (0 : Int)) then !xs.getD v_14.fst.toNat false == xs.getD n42.toNat false else false)
         (∀ (n45 : Int),
          (n45 = IntKind.i64.wrap (v_14.fst + (1 : Int))) →
          ((-9223372036854775808 : Int) ≤ n45 ∧ n45 ≤ (9223372036854775807 : Int)) →
          ∃ (v' : Int × Int × Int),
          (xs = xs) ∧
          (true = true) ∧
          (v_14.snd.fst = v'.snd.fst) ∧
          ((1 : Int) = v'.snd.snd) ∧
          (n45 = v'.fst) ∧
          ((gS xs).fst = (gS xs).fst) ∧
          ((gS xs).snd.fst = (gS xs).snd.fst) ∧
          ((gS xs).snd.snd.fst = (gS xs).snd.snd.fst) ∧
          ((gS xs).snd.snd.snd.fst = (gS xs).snd.snd.snd.fst) ∧
          ((gS xs).snd.snd.snd.snd = (gS xs).snd.snd.snd.snd) ∧
          (
           (
            ((0 : Int) ≤ v'.fst) ∧
            (v'.fst ≤ (↑xs.length : Int))) ∧
           (
            ((0 : Int) ≤ v'.snd.fst) ∧
            (v'.snd.fst ≤ v'.fst)) ∧
           (
            ((0 : Int) ≤ v'.snd.snd) ∧
            (v'.snd.snd ≤ v'.fst)) ∧
           (v'.snd.fst = (rS (List.take v'.fst.toNat xs)).snd.fst) ∧
           (v'.snd.snd = (rS (List.take v'.fst.toNat xs)).snd.snd)) ∧
          (((↑xs.length : Int) - v'.fst).toNat < ((↑xs.length : Int) - v_14.fst).toNat))
         (∀ (n48 : Int),
          (n48 = IntKind.i64.wrap (v_14.fst + (1 : Int))) →
          ((-9223372036854775808 : Int) ≤ n48 ∧ n48 ≤ (9223372036854775807 : Int)) →
          ∃ (v' : Int × Int × Int),
          (xs = xs) ∧
          (true = true) ∧
          (v_14.snd.fst = v'.snd.fst) ∧
          (n38 = v'.snd.snd) ∧
          (n48 = v'.fst) ∧
          ((gS xs).fst = (gS xs).fst) ∧
          ((gS xs).snd.fst = (gS xs).snd.fst) ∧
          ((gS xs).snd.snd.fst = (gS xs).snd.snd.fst) ∧
          ((gS xs).snd.snd.snd.fst = (gS xs).snd.snd.snd.fst) ∧
          ((gS xs).snd.snd.snd.snd = (gS xs).snd.snd.snd.snd) ∧
          (
           (
            ((0 : Int) ≤ v'.fst) ∧
            (v'.fst ≤ (↑xs.length : Int))) ∧
           (
            ((0 : Int) ≤ v'.snd.fst) ∧
            (v'.snd.fst ≤ v'.fst)) ∧
           (
            ((0 : Int) ≤ v'.snd.snd) ∧
            (v'.snd.snd ≤ v'.fst)) ∧
           (v'.snd.fst = (rS (List.take v'.fst.toNat xs)).snd.fst) ∧
           (v'.snd.snd = (rS (List.take v'.fst.toNat xs)).snd.snd)) ∧
          (((↑xs.length : Int) - v'.fst).toNat < ((↑xs.length : Int) - v_14.fst).toNat))))
     (∀ (n51 : Int),
      (n51 = (↑xs.length : Int)) →
      ((-9223372036854775808 : Int) ≤ n51 ∧ n51 ≤ (9223372036854775807 : Int)) →
      br (n51 == (0 : Int))
       ((k (AV.bool (bif true then (gS xs).fst == false && ((gS xs).snd.fst == (0 : Int) && ((gS xs).snd.snd.fst == (0 : Int) && ((gS xs).snd.snd.snd.fst == (0 : Int) && ((gS xs).snd.snd.snd.snd == (0 : Int) && true)))) else false)) [] []))
       (∀ (n54 : Int),
        (n54 = (↑xs.length : Int)) →
        ((-9223372036854775808 : Int) ≤ n54 ∧ n54 ≤ (9223372036854775807 : Int)) →
        ∀ (n57 : Int),
        (n57 = IntKind.i64.wrap (n54 - (1 : Int))) →
        ((-9223372036854775808 : Int) ≤ n57 ∧ n57 ≤ (9223372036854775807 : Int)) →
        ((0 : Int) ≤ n57) ∧
        (n57 < (↑xs.length : Int)) ∧
        ∀ (n60 : Int),
        (n60 = (gS xs).snd.snd.snd.fst) →
        ∀ (n62 : Int),
        (n62 = (gS xs).snd.fst) →
        ∀ (n64 : Int),
        (n64 = (gS xs).snd.snd.fst) →
        ∀ (n66 : Int),
        (n66 = (gS xs).snd.snd.fst) →
        ∀ (n68 : Int),
        (n68 = (gS xs).snd.fst) →
        (k (AV.bool (bif bif bif true then n60 == v_14.snd.fst else false then (gS xs).fst == xs.getD n57.toNat false else false then bif bif bif xs.getD n57.toNat false then n62 == v_14.snd.snd else false then n64 == (0 : Int) else false then true else bif bif !xs.getD n57.toNat false then n66 == v_14.snd.snd else false then n68 == (0 : Int) else false else false)) [] [])))) := by
  intro n1
  intro q1 -- n1 = (↑xs.length : Int)
  intro ⟨l1, u1⟩ -- (-9223372036854775808 : Int) ≤ n1 ∧ n1 ≤ (9223372036854775807 : Int)
  refine brd (fun c1 => ?_) (fun c1 => ?_) -- decide (n1 > (400 : Int))
  · -- yes
    exact by exact hk -- k (AV.bool true) [] []
  · -- no
    intro u_4
    intro h_5
    intro p_6
    intro c_7
    intro l_8
    intro h2 -- (u_4, h_5, p_6, c_7, l_8) = gS xs
    intro ⟨a3, b3⟩ -- (0 : Int) ≤ h_5 ∧ h_5 ≤ (1048576 : Int)
    intro ⟨a4, b4⟩ -- (0 : Int) ≤ p_6 ∧ p_6 ≤ (1048576 : Int)
    intro ⟨a5, b5⟩ -- (0 : Int) ≤ c_7 ∧ c_7 ≤ (1073741824 : Int)
    intro ⟨a6, b6⟩ -- (0 : Int) ≤ l_8 ∧ l_8 ≤ (18446744073709551615 : Int)
    refine ⟨?_, ?_⟩
    · -- left
      refine ⟨((0 : Int), (0 : Int), (0 : Int)), ?_⟩
      refine ⟨by first | with_reducible rfl | rfl, ?_⟩ -- xs = xs
      refine ⟨by first | with_reducible rfl | rfl, ?_⟩ -- true = true
      refine ⟨by first | with_reducible rfl | rfl, ?_⟩ -- (0 : Int) = (0 : Int)
      refine ⟨by first | with_reducible rfl | rfl, ?_⟩ -- (0 : Int) = (0 : Int)
      refine ⟨by first | with_reducible rfl | rfl, ?_⟩ -- (0 : Int) = (0 : Int)
      have h7 : u_4 = (gS xs).fst := by
        rw [← h2]
      refine ⟨h7, ?_⟩
      have h8 : h_5 = (gS xs).snd.fst := by
        rw [← h2]
      refine ⟨h8, ?_⟩
      have h9 : p_6 = (gS xs).snd.snd.fst := by
        rw [← h2]
      refine ⟨h9, ?_⟩
      have h10 : c_7 = (gS xs).snd.snd.snd.fst := by
        rw [← h2]
      refine ⟨h10, ?_⟩
      have h11 : l_8 = (gS xs).snd.snd.snd.snd := by
        rw [← h2]
      refine ⟨h11, ?_⟩
      refine ⟨by first | omega | (dsimp only; omega), ?_⟩ -- (0 : Int) ≤ (0 : Int) ∧ (0 : Int) ≤ (↑xs.length : Int)
      refine ⟨by first | omega | (dsimp only; omega), ?_⟩ -- (0 : Int) ≤ (0 : Int) ∧ (0 : Int) ≤ (0 : Int)
      refine ⟨by first | omega | (dsimp only; omega), ?_⟩ -- (0 : Int) ≤ (0 : Int) ∧ (0 : Int) ≤ (0 : Int)
      refine ⟨by rfl, ?_⟩ -- (0 : Int) = (rS (List.take (Int.toNat (0 : Int)) xs)).snd.fst
      exact by rfl -- (0 : Int) = (rS (List.take (Int.toNat (0 : Int)) xs)).snd.snd
    intro v_14
    intro h12 -- ((0 : Int) ≤ v_14.fst ∧ v_14.fst ≤ (↑xs.length : Int)) ∧ ((0 : Int) ≤ v_14.snd.fst ∧ v_14.snd.fst ≤ v_14.fst) ∧ ((0 : Int) ≤ v_14.snd.snd ∧ v_14.snd.snd ≤ v_14.fst) ∧ v_14.snd.fst = (rS (List.take v_14.fst.toNat xs)).snd.fst ∧ v_14.snd.snd = (rS (List.take v_14.fst.toNat xs)).snd.snd
    intro n16
    intro q16 -- n16 = (↑xs.length : Int)
    intro ⟨l16, u16⟩ -- (-9223372036854775808 : Int) ≤ n16 ∧ n16 ≤ (9223372036854775807 : Int)
    refine brd (fun c13 => ?_) (fun c13 => ?_) -- decide (v_14.fst < n16)
    · -- yes
      refine ⟨by first | omega | (dsimp only; omega), ?_⟩ -- (0 : Int) ≤ v_14.fst
      refine ⟨by first | omega | (dsimp only; omega), ?_⟩ -- v_14.fst < (↑xs.length : Int)
      intro n19
      intro q19 -- n19 = IntKind.i64.wrap (v_14.fst - (1 : Int))
      rw [IntKind.wrap_i64] at q19
      refine ⟨?_, ?_⟩
      · -- left
        intro ⟨l19, u19⟩ -- (v_14.fst == (0 : Int)) = false ∧ xs.getD v_14.fst.toNat false = true
        simp at l19 -- ¬v_14.fst = (0 : Int)
        simp at u19 -- xs[v_14.fst.toNat]?.getD false = true
        refine ⟨by first | omega | (dsimp only; omega), ?_⟩ -- (0 : Int) ≤ n19
        exact by omega -- n19 < (↑xs.length : Int)
      refine br_intro (fun c14 => ?_) (fun c14 => ?_) -- bif xs.getD v_14.fst.toNat false then bif v_14.fst == (0 : Int) then true else !xs.getD n19.toNat false else false
      · -- yes
        simp at c14 -- xs[v_14.fst.toNat]?.getD false = true ∧ (v_14.fst = (0 : Int) ∨ xs[n19.toNat]?.getD false = false)
        intro n22
        intro q22 -- n22 = IntKind.i64.wrap (v_14.snd.fst + (1 : Int))
        rw [IntKind.wrap_i64] at q22
        intro ⟨l22, u22⟩ -- (-9223372036854775808 : Int) ≤ n22 ∧ n22 ≤ (9223372036854775807 : Int)
        intro n25
        intro q25 -- n25 = IntKind.i64.wrap (v_14.snd.snd + (1 : Int))
        rw [IntKind.wrap_i64] at q25
        intro ⟨l25, u25⟩ -- (-9223372036854775808 : Int) ≤ n25 ∧ n25 ≤ (9223372036854775807 : Int)
        refine ⟨?_, ?_⟩
        · -- left
          intro h15 -- decide (v_14.fst > (0 : Int)) = true
          simp at h15 -- (0 : Int) < v_14.fst
          refine ⟨by first | omega | (dsimp only; omega), ?_⟩ -- (0 : Int) ≤ v_14.fst
          exact by omega -- v_14.fst < (↑xs.length : Int)
        intro n29
        intro q29 -- n29 = IntKind.i64.wrap (v_14.fst - (1 : Int))
        rw [IntKind.wrap_i64] at q29
        refine ⟨?_, ?_⟩
        · -- left
          intro q29 -- decide (v_14.fst > (0 : Int)) = true
          simp at q29 -- (0 : Int) < v_14.fst
          refine ⟨by first | omega | (dsimp only; omega), ?_⟩ -- (0 : Int) ≤ n29
          exact by omega -- n29 < (↑xs.length : Int)
        refine br_intro (fun c16 => ?_) (fun c16 => ?_) -- bif decide (v_14.fst > (0 : Int)) then !xs.getD v_14.fst.toNat false == xs.getD n29.toNat false else false
        · -- yes
          simp at c16 -- (0 : Int) < v_14.fst ∧ ¬xs[v_14.fst.toNat]?.getD false = xs[n29.toNat]?.getD false
          intro n32
          intro q32 -- n32 = IntKind.i64.wrap (v_14.fst + (1 : Int))
          rw [IntKind.wrap_i64] at q32
          intro ⟨l32, u32⟩ -- (-9223372036854775808 : Int) ≤ n32 ∧ n32 ≤ (9223372036854775807 : Int)
          refine ⟨(n32, n22, (1 : Int)), ?_⟩
          refine ⟨by first | with_reducible rfl | rfl, ?_⟩ -- xs = xs
          refine ⟨by first | with_reducible rfl | rfl, ?_⟩ -- true = true
          refine ⟨by first | with_reducible rfl | rfl, ?_⟩ -- n22 = n22
          refine ⟨by first | with_reducible rfl | rfl, ?_⟩ -- (1 : Int) = (1 : Int)
          refine ⟨by first | with_reducible rfl | rfl, ?_⟩ -- n32 = n32
          refine ⟨by first | with_reducible rfl | rfl, ?_⟩ -- (gS xs).fst = (gS xs).fst
          refine ⟨by first | with_reducible rfl | rfl, ?_⟩ -- (gS xs).snd.fst = (gS xs).snd.fst
          refine ⟨by first | with_reducible rfl | rfl, ?_⟩ -- (gS xs).snd.snd.fst = (gS xs).snd.snd.fst
          refine ⟨by first | with_reducible rfl | rfl, ?_⟩ -- (gS xs).snd.snd.snd.fst = (gS xs).snd.snd.snd.fst
          refine ⟨by first | with_reducible rfl | rfl, ?_⟩ -- (gS xs).snd.snd.snd.snd = (gS xs).snd.snd.snd.snd
          refine ⟨?_, ?_⟩
          · -- left
            refine ⟨by first | omega | (dsimp only; omega), ?_⟩ -- (0 : Int) ≤ n32 ∧ n32 ≤ (↑xs.length : Int)
            refine ⟨by first | omega | (dsimp only; omega), ?_⟩ -- (0 : Int) ≤ n22 ∧ n22 ≤ n32
            refine ⟨by first | omega | (dsimp only; omega), ?_⟩ -- (0 : Int) ≤ (1 : Int) ∧ (1 : Int) ≤ n32
            have h17 : n22 = (rS (List.take n32.toNat xs)).snd.fst := by
              rw [(rS_step (xs := xs) (i := v_14.fst) (n := n32) (m := n19) (by omega) (by omega) (by omega) (by omega)).1, if_pos c14, ← h12.2.2.2.1]; (try dsimp only); omega
            refine ⟨h17, ?_⟩
            -- (1 : Int) = (rS (List.take n32.toNat xs)).snd.snd
            rw [(rS_step (xs := xs) (i := v_14.fst) (n := n32) (m := n29) (by omega) (by omega) (by omega) (by omega)).2, if_pos c16]
          exact by show ((↑xs.length : Int) - n32).toNat < ((↑xs.length : Int) - v_14.fst).toNat; omega -- ((↑xs.length : Int) - n32).toNat < ((↑xs.length : Int) - v_14.fst).toNat
        · -- no
          simp at c16 -- (0 : Int) < v_14.fst → xs[v_14.fst.toNat]?.getD false = xs[n29.toNat]?.getD false
          intro n35
          intro q35 -- n35 = IntKind.i64.wrap (v_14.fst + (1 : Int))
          rw [IntKind.wrap_i64] at q35
          intro ⟨l35, u35⟩ -- (-9223372036854775808 : Int) ≤ n35 ∧ n35 ≤ (9223372036854775807 : Int)
          refine ⟨(n35, n22, n25), ?_⟩
          refine ⟨by first | with_reducible rfl | rfl, ?_⟩ -- xs = xs
          refine ⟨by first | with_reducible rfl | rfl, ?_⟩ -- true = true
          refine ⟨by first | with_reducible rfl | rfl, ?_⟩ -- n22 = n22
          refine ⟨by first | with_reducible rfl | rfl, ?_⟩ -- n25 = n25
          refine ⟨by first | with_reducible rfl | rfl, ?_⟩ -- n35 = n35
          refine ⟨by first | with_reducible rfl | rfl, ?_⟩ -- (gS xs).fst = (gS xs).fst
          refine ⟨by first | with_reducible rfl | rfl, ?_⟩ -- (gS xs).snd.fst = (gS xs).snd.fst
          refine ⟨by first | with_reducible rfl | rfl, ?_⟩ -- (gS xs).snd.snd.fst = (gS xs).snd.snd.fst
          refine ⟨by first | with_reducible rfl | rfl, ?_⟩ -- (gS xs).snd.snd.snd.fst = (gS xs).snd.snd.snd.fst
          refine ⟨by first | with_reducible rfl | rfl, ?_⟩ -- (gS xs).snd.snd.snd.snd = (gS xs).snd.snd.snd.snd
          refine ⟨?_, ?_⟩
          · -- left
            refine ⟨by first | omega | (dsimp only; omega), ?_⟩ -- (0 : Int) ≤ n35 ∧ n35 ≤ (↑xs.length : Int)
            refine ⟨by first | omega | (dsimp only; omega), ?_⟩ -- (0 : Int) ≤ n22 ∧ n22 ≤ n35
            refine ⟨by first | omega | (dsimp only; omega), ?_⟩ -- (0 : Int) ≤ n25 ∧ n25 ≤ n35
            have h18 : n22 = (rS (List.take n35.toNat xs)).snd.fst := by
              rw [(rS_step (xs := xs) (i := v_14.fst) (n := n35) (m := n19) (by omega) (by omega) (by omega) (by omega)).1, if_pos c14, ← h12.2.2.2.1]; (try dsimp only); omega
            refine ⟨h18, ?_⟩
            -- n25 = (rS (List.take n35.toNat xs)).snd.snd
            rw [(rS_step (xs := xs) (i := v_14.fst) (n := n35) (m := n29) (by omega) (by omega) (by omega) (by omega)).2, if_neg (fun h => h.2 (c16 h.1)), ← h12.2.2.2.2]; (try dsimp only); omega
          exact by show ((↑xs.length : Int) - n35).toNat < ((↑xs.length : Int) - v_14.fst).toNat; omega -- ((↑xs.length : Int) - n35).toNat < ((↑xs.length : Int) - v_14.fst).toNat
      · -- no
        simp at c14 -- xs[v_14.fst.toNat]?.getD false = true → ¬v_14.fst = (0 : Int) ∧ xs[n19.toNat]?.getD false = true
        intro n38
        intro q38 -- n38 = IntKind.i64.wrap (v_14.snd.snd + (1 : Int))
        rw [IntKind.wrap_i64] at q38
        intro ⟨l38, u38⟩ -- (-9223372036854775808 : Int) ≤ n38 ∧ n38 ≤ (9223372036854775807 : Int)
        refine ⟨?_, ?_⟩
        · -- left
          intro h19 -- decide (v_14.fst > (0 : Int)) = true
          simp at h19 -- (0 : Int) < v_14.fst
          refine ⟨by first | omega | (dsimp only; omega), ?_⟩ -- (0 : Int) ≤ v_14.fst
          exact by omega -- v_14.fst < (↑xs.length : Int)
        intro n42
        intro q42 -- n42 = IntKind.i64.wrap (v_14.fst - (1 : Int))
        rw [IntKind.wrap_i64] at q42
        refine ⟨?_, ?_⟩
        · -- left
          intro q42 -- decide (v_14.fst > (0 : Int)) = true
          simp at q42 -- (0 : Int) < v_14.fst
          refine ⟨by first | omega | (dsimp only; omega), ?_⟩ -- (0 : Int) ≤ n42
          exact by omega -- n42 < (↑xs.length : Int)
        refine br_intro (fun c20 => ?_) (fun c20 => ?_) -- bif decide (v_14.fst > (0 : Int)) then !xs.getD v_14.fst.toNat false == xs.getD n42.toNat false else false
        · -- yes
          simp at c20 -- (0 : Int) < v_14.fst ∧ ¬xs[v_14.fst.toNat]?.getD false = xs[n42.toNat]?.getD false
          intro n45
          intro q45 -- n45 = IntKind.i64.wrap (v_14.fst + (1 : Int))
          rw [IntKind.wrap_i64] at q45
          intro ⟨l45, u45⟩ -- (-9223372036854775808 : Int) ≤ n45 ∧ n45 ≤ (9223372036854775807 : Int)
          refine ⟨(n45, v_14.snd.fst, (1 : Int)), ?_⟩
          refine ⟨by first | with_reducible rfl | rfl, ?_⟩ -- xs = xs
          refine ⟨by first | with_reducible rfl | rfl, ?_⟩ -- true = true
          refine ⟨by first | with_reducible rfl | rfl, ?_⟩ -- v_14.snd.fst = v_14.snd.fst
          refine ⟨by first | with_reducible rfl | rfl, ?_⟩ -- (1 : Int) = (1 : Int)
          refine ⟨by first | with_reducible rfl | rfl, ?_⟩ -- n45 = n45
          refine ⟨by first | with_reducible rfl | rfl, ?_⟩ -- (gS xs).fst = (gS xs).fst
          refine ⟨by first | with_reducible rfl | rfl, ?_⟩ -- (gS xs).snd.fst = (gS xs).snd.fst
          refine ⟨by first | with_reducible rfl | rfl, ?_⟩ -- (gS xs).snd.snd.fst = (gS xs).snd.snd.fst
          refine ⟨by first | with_reducible rfl | rfl, ?_⟩ -- (gS xs).snd.snd.snd.fst = (gS xs).snd.snd.snd.fst
          refine ⟨by first | with_reducible rfl | rfl, ?_⟩ -- (gS xs).snd.snd.snd.snd = (gS xs).snd.snd.snd.snd
          refine ⟨?_, ?_⟩
          · -- left
            refine ⟨by first | omega | (dsimp only; omega), ?_⟩ -- (0 : Int) ≤ n45 ∧ n45 ≤ (↑xs.length : Int)
            refine ⟨by first | omega | (dsimp only; omega), ?_⟩ -- (0 : Int) ≤ v_14.snd.fst ∧ v_14.snd.fst ≤ n45
            refine ⟨by first | omega | (dsimp only; omega), ?_⟩ -- (0 : Int) ≤ (1 : Int) ∧ (1 : Int) ≤ n45
            have h21 : v_14.snd.fst = (rS (List.take n45.toNat xs)).snd.fst := by
              rw [(rS_step (xs := xs) (i := v_14.fst) (n := n45) (m := n19) (by omega) (by omega) (by omega) (by omega)).1, if_neg (fun h => by have c := c14 h.1; rcases h.2 with h | h; exact c.1 h; rw [c.2] at h; cases h), ← h12.2.2.2.1]
            refine ⟨h21, ?_⟩
            -- (1 : Int) = (rS (List.take n45.toNat xs)).snd.snd
            rw [(rS_step (xs := xs) (i := v_14.fst) (n := n45) (m := n42) (by omega) (by omega) (by omega) (by omega)).2, if_pos c20]
          exact by show ((↑xs.length : Int) - n45).toNat < ((↑xs.length : Int) - v_14.fst).toNat; omega -- ((↑xs.length : Int) - n45).toNat < ((↑xs.length : Int) - v_14.fst).toNat
        · -- no
          simp at c20 -- (0 : Int) < v_14.fst → xs[v_14.fst.toNat]?.getD false = xs[n42.toNat]?.getD false
          intro n48
          intro q48 -- n48 = IntKind.i64.wrap (v_14.fst + (1 : Int))
          rw [IntKind.wrap_i64] at q48
          intro ⟨l48, u48⟩ -- (-9223372036854775808 : Int) ≤ n48 ∧ n48 ≤ (9223372036854775807 : Int)
          refine ⟨(n48, v_14.snd.fst, n38), ?_⟩
          refine ⟨by first | with_reducible rfl | rfl, ?_⟩ -- xs = xs
          refine ⟨by first | with_reducible rfl | rfl, ?_⟩ -- true = true
          refine ⟨by first | with_reducible rfl | rfl, ?_⟩ -- v_14.snd.fst = v_14.snd.fst
          refine ⟨by first | with_reducible rfl | rfl, ?_⟩ -- n38 = n38
          refine ⟨by first | with_reducible rfl | rfl, ?_⟩ -- n48 = n48
          refine ⟨by first | with_reducible rfl | rfl, ?_⟩ -- (gS xs).fst = (gS xs).fst
          refine ⟨by first | with_reducible rfl | rfl, ?_⟩ -- (gS xs).snd.fst = (gS xs).snd.fst
          refine ⟨by first | with_reducible rfl | rfl, ?_⟩ -- (gS xs).snd.snd.fst = (gS xs).snd.snd.fst
          refine ⟨by first | with_reducible rfl | rfl, ?_⟩ -- (gS xs).snd.snd.snd.fst = (gS xs).snd.snd.snd.fst
          refine ⟨by first | with_reducible rfl | rfl, ?_⟩ -- (gS xs).snd.snd.snd.snd = (gS xs).snd.snd.snd.snd
          refine ⟨?_, ?_⟩
          · -- left
            refine ⟨by first | omega | (dsimp only; omega), ?_⟩ -- (0 : Int) ≤ n48 ∧ n48 ≤ (↑xs.length : Int)
            refine ⟨by first | omega | (dsimp only; omega), ?_⟩ -- (0 : Int) ≤ v_14.snd.fst ∧ v_14.snd.fst ≤ n48
            refine ⟨by first | omega | (dsimp only; omega), ?_⟩ -- (0 : Int) ≤ n38 ∧ n38 ≤ n48
            have h22 : v_14.snd.fst = (rS (List.take n48.toNat xs)).snd.fst := by
              rw [(rS_step (xs := xs) (i := v_14.fst) (n := n48) (m := n19) (by omega) (by omega) (by omega) (by omega)).1, if_neg (fun h => by have c := c14 h.1; rcases h.2 with h | h; exact c.1 h; rw [c.2] at h; cases h), ← h12.2.2.2.1]
            refine ⟨h22, ?_⟩
            -- n38 = (rS (List.take n48.toNat xs)).snd.snd
            rw [(rS_step (xs := xs) (i := v_14.fst) (n := n48) (m := n42) (by omega) (by omega) (by omega) (by omega)).2, if_neg (fun h => h.2 (c20 h.1)), ← h12.2.2.2.2]; (try dsimp only); omega
          exact by show ((↑xs.length : Int) - n48).toNat < ((↑xs.length : Int) - v_14.fst).toNat; omega -- ((↑xs.length : Int) - n48).toNat < ((↑xs.length : Int) - v_14.fst).toNat
    · -- no
      intro n51
      intro q51 -- n51 = (↑xs.length : Int)
      intro ⟨l51, u51⟩ -- (-9223372036854775808 : Int) ≤ n51 ∧ n51 ≤ (9223372036854775807 : Int)
      refine br_intro (fun c23 => ?_) (fun c23 => ?_) -- n51 == (0 : Int)
      · -- yes
        simp at c23 -- n51 = (0 : Int)
        -- k (AV.bool (bif true then (gS xs).fst == false && ((gS xs).snd.fst == (0 : Int) && ((gS xs).snd.snd.fst == (0 : Int) && ((gS xs).snd.snd.snd.fst == (0 : Int) && ((gS xs).snd.snd.snd.snd == (0 : Int) && true)))) else false)) [] []
        have e : xs = [] := List.length_eq_zero_iff.1 (by omega)
        subst e
        exact k_true hk (by decide)
      · -- no
        simp at c23 -- ¬n51 = (0 : Int)
        intro n54
        intro q54 -- n54 = (↑xs.length : Int)
        intro ⟨l54, u54⟩ -- (-9223372036854775808 : Int) ≤ n54 ∧ n54 ≤ (9223372036854775807 : Int)
        intro n57
        intro q57 -- n57 = IntKind.i64.wrap (n54 - (1 : Int))
        rw [IntKind.wrap_i64] at q57
        intro ⟨l57, u57⟩ -- (-9223372036854775808 : Int) ≤ n57 ∧ n57 ≤ (9223372036854775807 : Int)
        refine ⟨by first | omega | (dsimp only; omega), ?_⟩ -- (0 : Int) ≤ n57
        refine ⟨by first | omega | (dsimp only; omega), ?_⟩ -- n57 < (↑xs.length : Int)
        intro n60
        intro q60 -- n60 = (gS xs).snd.snd.snd.fst
        intro n62
        intro q62 -- n62 = (gS xs).snd.fst
        intro n64
        intro q64 -- n64 = (gS xs).snd.snd.fst
        intro n66
        intro q66 -- n66 = (gS xs).snd.snd.fst
        intro n68
        intro q68 -- n68 = (gS xs).snd.fst
        -- k (AV.bool (bif bif bif true then n60 == v_14.snd.fst else false then (gS xs).fst == xs.getD n57.toNat false else false then bif bif bif xs.getD n57.toNat false then n62 == v_14.snd.snd else false then n64 == (0 : Int) else false then true else bif bif !xs.getD n57.toNat false then n66 == v_14.snd.snd else false then n68 == (0 : Int) else false else false)) [] []
        have E := runs_end (v := v_14) (m := n57) (by omega) (by omega) (by omega) h12.2.2.2.1 h12.2.2.2.2
        obtain ⟨E1, E | E⟩ := E
        · exact k_true hk (by simp [q60, q62, q64, q66, q68, E1, E.1, E.2.1, E.2.2.1, E.2.2.2])
        · exact k_true hk (by simp [q60, q62, q64, q66, q68, E1, E.1, E.2.1, E.2.2.1, E.2.2.2])

theorem gapRuns_ok : Holds Try.prog 3 lawBools := by
  refine fn_sound (env := mkEnv T6) (tab_ok T6_ok) Try.func3 Try.call3 fun args k h => ?_
  match args, h with
  | [.sl 4 xs], h => exact ⟨by kernel_rfl, runsLoops xs, fun _ _ => none, .cast (by kernel_rfl) (gapRuns_vc xs k h)⟩
end Go.Proofs.Ytaajleciicgoiaa
namespace Go.Proofs.Ytaajleciicgoiaa
open Go.ChangeShapes Go.WideShapes Go.ChangeAt Go.RowKit Go.Eng
set_option linter.unusedVariables false

theorem ownA : ownKnob Try.prog.godebug = none := by kernel_rfl
theorem laidA : laidOutB Try.prog = true := by kernel_rfl

set_option maxHeartbeats 800000 in
set_option maxRecDepth 100000 in
theorem gapRunsLifted (os : Os) (started : os.Started) (H : Type) (enc : TypeId × Value → H) :
    ReturnsInHanded {} Try.checked os 3 .any (Rows.gapRunsSpec.pre6 enc Try.prog Try.f3 Rows.gapRunsRow.domain false) (Rows.gapRunsSpec.post enc Try.prog Try.f3 false true false false) := by
  refine returnsInHanded_of_change (C := Try.checked) ownA started (by kernel_rfl) Try.func3
    (ChangeSpec.witness6 (enc := enc) (C := Try.checked) false ⟨#[], #[.slice none 0 0], []⟩ 8 (by kernel_rfl) (by kernel_rfl) (by kernel_rfl) (by kernel_rfl)) ?_
  intro W base args ds gs before hval0 hW hcnd _
  have hval : ∀ (j : Nat) t v, Try.f3.params[j]? = some t → args[j]? = some v → Value.okWide Try.prog W .any base t v := hval0
  have hW' := hW
  obtain ⟨p, q, hA0, hV, rfl, hfz, hnd⟩ := hW
  have hA : DataW.TrodAll enc Try.prog W 0 (fun _ => true) true Try.f3.params.toList args.toList ds p := hA0
  rw [Try.params3] at hA hval
  obtain ⟨v0, vs0, d0, ds0, p0, q0, hargs, rfl, rfl, h0, r0⟩ := trodAll_cons hA
  obtain ⟨rfl, rfl, rfl⟩ := trodAll_nil r0
  obtain rfl : args = #[v0] := by cases args; simp_all
  obtain ⟨rfl, rfl⟩ := trodVars_none hV
  have k0 := h0
  have lt0 : ∀ x ∈ p0, x.block < W.heap.size := by obtain ⟨m, hm⟩ := k0; exact DataW.trod_lt m _ _ _ hm
  obtain ⟨xs0, w0⟩ : ∃ xs : List Bool, Rep W (· < W.heap.size) noIds v0 (.sl 4 xs) := by
    obtain ⟨fuel, hf⟩ := h0
    exact rep_bools Try.underlying22 Try.underlying4 (by kernel_rfl) (hval 0 22 v0 rfl rfl) hf
  clear hA0 hval0
  -- PRE: what the spec asks ([]), then rfl
  refine (calls_of_holds gapRuns_ok Try.call3 (w := W) (vals := #[v0]) (args := [.sl 4 xs0]) rfl (fun j v hj => ?_) rfl).mono fun e W' ⟨he, bel⟩ => ?_
  · rcases j with _ | j
    · simp at hj; subst hj; exact w0
    · simp at hj
  subst he
  exact ⟨_, rfl, _, _, _, [], _, [], hW', trodAll_mk1 (shut_bool Try.underlying4 _), (trodAll_cons_mk (Below.trod laidA (by kernel_rfl) (of_decide_eq_true (by kernel_rfl)) k0 bel lt0) trodAll_mk0), rfl, bel.frame _, fun h => by cases h⟩

theorem gapRuns_said : Rows.GapRunsSaid :=
  OpenClaim.holds_of_wide 3 Try.f3 rfl rfl rfl rfl rfl rfl rfl ⟨rfl, rfl, rfl, rfl, rfl⟩ rfl rfl rfl rfl rfl (by kernel_rfl) Try.func3 (by kernel_rfl)
    (of_decide_eq_true (by kernel_rfl)) (by unfold Func.isWrapper; first | (rw [if_pos (by decide +kernel)]; kernel_rfl) | (rw [if_neg (by decide +kernel)]; exact ⟨rfl, rfl⟩))
    (fun os started H enc _ => gapRunsLifted os started H enc)
#print axioms gapRuns_said
end Go.Proofs.Ytaajleciicgoiaa


