/- RingSum: the sum of small numbers is exact, it does not mind the order, and it is never beyond where sums stop. Any numbers. No conditions beyond the row's own. -/
import Derived.Test.YtcnnbofjgmohaaaRgF
namespace Go.Proofs.Ytcnnbofjgmohaaa
open Go Go.Eng Go.Rg Go.Proofs
set_option linter.unusedVariables false
set_option maxHeartbeats 2000000 in
theorem ringSum_vc (l : List Int) (k : AV → List (Option Blk) → List Blk → Prop) (hk : k (AV.bool true) [] []) :
  ∀ (n1 : Int),
  (n1 = (↑l.length : Int)) →
  ((-9223372036854775808 : Int) ≤ n1 ∧ n1 ≤ (9223372036854775807 : Int)) →
  ∀ (n4 : Int),
  (n4 = (↑l.length : Int)) →
  br (bif decide (n1 < (1 : Int)) then true else decide (n4 > (400 : Int)))
   ((k (AV.bool true) [] []))
   (∀ (n6 : Int),
    (n6 = (↑l.length : Int)) →
    ((-9223372036854775808 : Int) ≤ n6 ∧ n6 ≤ (9223372036854775807 : Int)) →
    (
     ((-9223372036854775808 : Int) ≤ n6) ∧
     (n6 ≤ (9223372036854775807 : Int))) ∧
    (
     ((1 : Int) ≤ n6) →
     (n6 ≤ (1024 : Int)) →
     ∀ (q_11 : Nat),
     ∀ (xs_12 : List Int),
     ((↑q_11 : Int) = n6) →
     (xs_12 = List.replicate q_11 (0 : Int)) →
     ∀ (n15 : Int),
     (n15 = (↑l.length : Int)) →
     ((-9223372036854775808 : Int) ≤ n15 ∧ n15 ≤ (9223372036854775807 : Int)) →
     (
      ((-9223372036854775808 : Int) ≤ n15) ∧
      (n15 ≤ (9223372036854775807 : Int))) ∧
     (
      ((1 : Int) ≤ n15) →
      (n15 ≤ (1024 : Int)) →
      ∀ (q_20 : Nat),
      ∀ (xs_21 : List Int),
      ((↑q_20 : Int) = n15) →
      (xs_21 = List.replicate q_20 (0 : Int)) →
      (
       ∃ (v : Int × Bool × Int × (Int × Int × List Int) × Int × Int × List Int),
       (l = l) ∧
       (true = true) ∧
       ((0 : Int) = v.fst) ∧
       (true = v.snd.fst) ∧
       ((0 : Int) = v.snd.snd.fst) ∧
       ((0 : Nat) = (0 : Nat)) ∧
       (q_11 = l.length) ∧
       ((0 : Int) = v.snd.snd.snd.fst.fst) ∧
       ((0 : Int) = v.snd.snd.snd.fst.snd.fst) ∧
       (xs_12 = v.snd.snd.snd.fst.snd.snd) ∧
       ((0 : Nat) = (0 : Nat)) ∧
       (q_20 = l.length) ∧
       ((0 : Int) = v.snd.snd.snd.snd.fst) ∧
       ((0 : Int) = v.snd.snd.snd.snd.snd.fst) ∧
       (xs_21 = v.snd.snd.snd.snd.snd.snd) ∧
       (
        ((0 : Int) ≤ v.snd.snd.fst) ∧
        (v.snd.snd.fst ≤ (↑l.length : Int))) ∧
       (
        (
         ((1 : Nat) ≤ l.length) ∧
         (l.length ≤ (1024 : Nat))) ∧
        (v.snd.snd.snd.fst.snd.snd.length = l.length) ∧
        (
         ((0 : Int) ≤ v.snd.snd.snd.fst.fst) ∧
         (v.snd.snd.snd.fst.fst < (↑l.length : Int))) ∧
        ((0 : Int) ≤ v.snd.snd.snd.fst.snd.fst) ∧
        (v.snd.snd.snd.fst.snd.fst ≤ (↑l.length : Int))) ∧
       (
        (
         ((1 : Nat) ≤ l.length) ∧
         (l.length ≤ (1024 : Nat))) ∧
        (v.snd.snd.snd.snd.snd.snd.length = l.length) ∧
        (
         ((0 : Int) ≤ v.snd.snd.snd.snd.fst) ∧
         (v.snd.snd.snd.snd.fst < (↑l.length : Int))) ∧
        ((0 : Int) ≤ v.snd.snd.snd.snd.snd.fst) ∧
        (v.snd.snd.snd.snd.snd.fst ≤ (↑l.length : Int))) ∧
       (RInv l.length v.snd.snd.snd.fst.fst v.snd.snd.snd.fst.snd.fst v.snd.snd.snd.fst.snd.snd (List.take v.snd.snd.fst.toNat l)) ∧
       (RInv l.length v.snd.snd.snd.snd.fst v.snd.snd.snd.snd.snd.fst v.snd.snd.snd.snd.snd.snd (List.take v.snd.snd.fst.toNat l.reverse)) ∧
       ((v.snd.fst = true) →
       (v.fst = sumL (List.take v.snd.snd.fst.toNat l)) ∧
       ((-1125899906842624 : Int) * v.snd.snd.fst ≤ v.fst) ∧
       (v.fst ≤ (1125899906842624 : Int) * v.snd.snd.fst))) ∧
      ∀ (v_25 : Int × Bool × Int × (Int × Int × List Int) × Int × Int × List Int),
      (((0 : Int) ≤ v_25.snd.snd.fst ∧ v_25.snd.snd.fst ≤ (↑l.length : Int)) ∧ (((1 : Nat) ≤ l.length ∧ l.length ≤ (1024 : Nat)) ∧ v_25.snd.snd.snd.fst.snd.snd.length = l.length ∧ ((0 : Int) ≤ v_25.snd.snd.snd.fst.fst ∧ v_25.snd.snd.snd.fst.fst < (↑l.length : Int)) ∧ (0 : Int) ≤ v_25.snd.snd.snd.fst.snd.fst ∧ v_25.snd.snd.snd.fst.snd.fst ≤ (↑l.length : Int)) ∧ (((1 : Nat) ≤ l.length ∧ l.length ≤ (1024 : Nat)) ∧ v_25.snd.snd.snd.snd.snd.snd.length = l.length ∧ ((0 : Int) ≤ v_25.snd.snd.snd.snd.fst ∧ v_25.snd.snd.snd.snd.fst < (↑l.length : Int)) ∧ (0 : Int) ≤ v_25.snd.snd.snd.snd.snd.fst ∧ v_25.snd.snd.snd.snd.snd.fst ≤ (↑l.length : Int)) ∧ RInv l.length v_25.snd.snd.snd.fst.fst v_25.snd.snd.snd.fst.snd.fst v_25.snd.snd.snd.fst.snd.snd (List.take v_25.snd.snd.fst.toNat l) ∧ RInv l.length v_25.snd.snd.snd.snd.fst v_25.snd.snd.snd.snd.snd.fst v_25.snd.snd.snd.snd.snd.snd (List.take v_25.snd.snd.fst.toNat l.reverse) ∧ (v_25.snd.fst = true → v_25.fst = sumL (List.take v_25.snd.snd.fst.toNat l) ∧ (-1125899906842624 : Int) * v_25.snd.snd.fst ≤ v_25.fst ∧ v_25.fst ≤ (1125899906842624 : Int) * v_25.snd.snd.fst)) →
      ∀ (n27 : Int),
      (n27 = (↑l.length : Int)) →
      ((-9223372036854775808 : Int) ≤ n27 ∧ n27 ≤ (9223372036854775807 : Int)) →
      br (decide (v_25.snd.snd.fst < n27))
       (((0 : Int) ≤ v_25.snd.snd.fst) ∧
        (v_25.snd.snd.fst < (↑l.length : Int)) ∧
        ∀ (n30 : Int),
        (n30 = l.getD v_25.snd.snd.fst.toNat (0 : Int)) →
        ((-9223372036854775808 : Int) ≤ n30 ∧ n30 ≤ (9223372036854775807 : Int)) →
        (
         (
          ((1 : Nat) ≤ l.length) ∧
          (l.length ≤ (1024 : Nat))) ∧
         (v_25.snd.snd.snd.fst.snd.snd.length = l.length) ∧
         (
          ((0 : Int) ≤ v_25.snd.snd.snd.fst.fst) ∧
          (v_25.snd.snd.snd.fst.fst < (↑l.length : Int))) ∧
         ((0 : Int) ≤ v_25.snd.snd.snd.fst.snd.fst) ∧
         (v_25.snd.snd.snd.fst.snd.fst ≤ (↑l.length : Int))) ∧
        (
         ((-9223372036854775808 : Int) ≤ n30) ∧
         (n30 ≤ (9223372036854775807 : Int))) ∧
        ∀ (a1_33 : Int),
        ∀ (m1_34 : Int),
        ∀ (ys_35 : List Int),
        (a1_33 = (v_25.snd.snd.snd.fst.fst + (1 : Int)) % (↑l.length : Int)) →
        (m1_34 = min (v_25.snd.snd.snd.fst.snd.fst + (1 : Int)) (↑l.length : Int)) →
        (ys_35 = v_25.snd.snd.snd.fst.snd.snd.set v_25.snd.snd.snd.fst.fst.toNat n30) →
        (((1 : Nat) ≤ l.length ∧ l.length ≤ (1024 : Nat)) ∧ ys_35.length = l.length ∧ ((0 : Int) ≤ a1_33 ∧ a1_33 < (↑l.length : Int)) ∧ (0 : Int) ≤ m1_34 ∧ m1_34 ≤ (↑l.length : Int)) →
        ∀ (n40 : Int),
        (n40 = (↑l.length : Int)) →
        ((-9223372036854775808 : Int) ≤ n40 ∧ n40 ≤ (9223372036854775807 : Int)) →
        ∀ (n43 : Int),
        (n43 = IntKind.i64.wrap (n40 - (1 : Int))) →
        ((-9223372036854775808 : Int) ≤ n43 ∧ n43 ≤ (9223372036854775807 : Int)) →
        ∀ (n46 : Int),
        (n46 = IntKind.i64.wrap (n43 - v_25.snd.snd.fst)) →
        ((-9223372036854775808 : Int) ≤ n46 ∧ n46 ≤ (9223372036854775807 : Int)) →
        ((0 : Int) ≤ n46) ∧
        (n46 < (↑l.length : Int)) ∧
        ∀ (n49 : Int),
        (n49 = l.getD n46.toNat (0 : Int)) →
        ((-9223372036854775808 : Int) ≤ n49 ∧ n49 ≤ (9223372036854775807 : Int)) →
        (
         (
          ((1 : Nat) ≤ l.length) ∧
          (l.length ≤ (1024 : Nat))) ∧
         (v_25.snd.snd.snd.snd.snd.snd.length = l.length) ∧
         (
          ((0 : Int) ≤ v_25.snd.snd.snd.snd.fst) ∧
          (v_25.snd.snd.snd.snd.fst < (↑l.length : Int))) ∧
         ((0 : Int) ≤ v_25.snd.snd.snd.snd.snd.fst) ∧
         (v_25.snd.snd.snd.snd.snd.fst ≤ (↑l.length : Int))) ∧
        (
         ((-9223372036854775808 : Int) ≤ n49) ∧
         (n49 ≤ (9223372036854775807 : Int))) ∧
        ∀ (a1_52 : Int),
        ∀ (m1_53 : Int),
        ∀ (ys_54 : List Int),
        (a1_52 = (v_25.snd.snd.snd.snd.fst + (1 : Int)) % (↑l.length : Int)) →
        (m1_53 = min (v_25.snd.snd.snd.snd.snd.fst + (1 : Int)) (↑l.length : Int)) →
        (ys_54 = v_25.snd.snd.snd.snd.snd.snd.set v_25.snd.snd.snd.snd.fst.toNat n49) →
        (((1 : Nat) ≤ l.length ∧ l.length ≤ (1024 : Nat)) ∧ ys_54.length = l.length ∧ ((0 : Int) ≤ a1_52 ∧ a1_52 < (↑l.length : Int)) ∧ (0 : Int) ≤ m1_53 ∧ m1_53 ≤ (↑l.length : Int)) →
        (
         (v_25.snd.fst = true) →
         ((0 : Int) ≤ v_25.snd.snd.fst) ∧
         (v_25.snd.snd.fst < (↑l.length : Int))) ∧
        ∀ (n60 : Int),
        (n60 = l.getD v_25.snd.snd.fst.toNat (0 : Int)) →
        (
         ((bif v_25.snd.fst then decide (n60 > (-1125899906842624 : Int)) else false) = true) →
         ((0 : Int) ≤ v_25.snd.snd.fst) ∧
         (v_25.snd.snd.fst < (↑l.length : Int))) ∧
        ∀ (n63 : Int),
        (n63 = l.getD v_25.snd.snd.fst.toNat (0 : Int)) →
        br (bif bif v_25.snd.fst then decide (n60 > (-1125899906842624 : Int)) else false then decide (n63 < (1125899906842624 : Int)) else false)
         (((0 : Int) ≤ v_25.snd.snd.fst) ∧
          (v_25.snd.snd.fst < (↑l.length : Int)) ∧
          ∀ (n65 : Int),
          (n65 = l.getD v_25.snd.snd.fst.toNat (0 : Int)) →
          ((-9223372036854775808 : Int) ≤ n65 ∧ n65 ≤ (9223372036854775807 : Int)) →
          ∀ (n68 : Int),
          (n68 = IntKind.i64.wrap (v_25.fst + n65)) →
          ((-9223372036854775808 : Int) ≤ n68 ∧ n68 ≤ (9223372036854775807 : Int)) →
          ∀ (n71 : Int),
          (n71 = IntKind.i64.wrap (v_25.snd.snd.fst + (1 : Int))) →
          ((-9223372036854775808 : Int) ≤ n71 ∧ n71 ≤ (9223372036854775807 : Int)) →
          ∃ (v' : Int × Bool × Int × (Int × Int × List Int) × Int × Int × List Int),
          (l = l) ∧
          (true = true) ∧
          (n68 = v'.fst) ∧
          ((bif bif v_25.snd.fst then decide (n60 > (-1125899906842624 : Int)) else false then decide (n63 < (1125899906842624 : Int)) else false) = v'.snd.fst) ∧
          (n71 = v'.snd.snd.fst) ∧
          ((0 : Nat) = (0 : Nat)) ∧
          (l.length = l.length) ∧
          (a1_33 = v'.snd.snd.snd.fst.fst) ∧
          (m1_34 = v'.snd.snd.snd.fst.snd.fst) ∧
          (ys_35 = v'.snd.snd.snd.fst.snd.snd) ∧
          ((0 : Nat) = (0 : Nat)) ∧
          (l.length = l.length) ∧
          (a1_52 = v'.snd.snd.snd.snd.fst) ∧
          (m1_53 = v'.snd.snd.snd.snd.snd.fst) ∧
          (ys_54 = v'.snd.snd.snd.snd.snd.snd) ∧
          (
           (
            ((0 : Int) ≤ v'.snd.snd.fst) ∧
            (v'.snd.snd.fst ≤ (↑l.length : Int))) ∧
           (
            (
             ((1 : Nat) ≤ l.length) ∧
             (l.length ≤ (1024 : Nat))) ∧
            (v'.snd.snd.snd.fst.snd.snd.length = l.length) ∧
            (
             ((0 : Int) ≤ v'.snd.snd.snd.fst.fst) ∧
             (v'.snd.snd.snd.fst.fst < (↑l.length : Int))) ∧
            ((0 : Int) ≤ v'.snd.snd.snd.fst.snd.fst) ∧
            (v'.snd.snd.snd.fst.snd.fst ≤ (↑l.length : Int))) ∧
           (
            (
             ((1 : Nat) ≤ l.length) ∧
             (l.length ≤ (1024 : Nat))) ∧
            (v'.snd.snd.snd.snd.snd.snd.length = l.length) ∧
            (
             ((0 : Int) ≤ v'.snd.snd.snd.snd.fst) ∧
             (v'.snd.snd.snd.snd.fst < (↑l.length : Int))) ∧
            ((0 : Int) ≤ v'.snd.snd.snd.snd.snd.fst) ∧
            (v'.snd.snd.snd.snd.snd.fst ≤ (↑l.length : Int))) ∧
           (RInv l.length v'.snd.snd.snd.fst.fst v'.snd.snd.snd.fst.snd.fst v'.snd.snd.snd.fst.snd.snd (List.take v'.snd.snd.fst.toNat l)) ∧
           (RInv l.length v'.snd.snd.snd.snd.fst v'.snd.snd.snd.snd.snd.fst v'.snd.snd.snd.snd.snd.snd (List.take v'.snd.snd.fst.toNat l.reverse)) ∧
           ((v'.snd.fst = true) →
           (v'.fst = sumL (List.take v'.snd.snd.fst.toNat l)) ∧
           ((-1125899906842624 : Int) * v'.snd.snd.fst ≤ v'.fst) ∧
           (v'.fst ≤ (1125899906842624 : Int) * v'.snd.snd.fst))) ∧
          (((↑l.length : Int) - v'.snd.snd.fst).toNat < ((↑l.length : Int) - v_25.snd.snd.fst).toNat))
         (∀ (n75 : Int),
          (n75 = IntKind.i64.wrap (v_25.snd.snd.fst + (1 : Int))) →
          ((-9223372036854775808 : Int) ≤ n75 ∧ n75 ≤ (9223372036854775807 : Int)) →
          ∃ (v' : Int × Bool × Int × (Int × Int × List Int) × Int × Int × List Int),
          (l = l) ∧
          (true = true) ∧
          (v_25.fst = v'.fst) ∧
          ((bif bif v_25.snd.fst then decide (n60 > (-1125899906842624 : Int)) else false then decide (n63 < (1125899906842624 : Int)) else false) = v'.snd.fst) ∧
          (n75 = v'.snd.snd.fst) ∧
          ((0 : Nat) = (0 : Nat)) ∧
          (l.length = l.length) ∧
          (a1_33 = v'.snd.snd.snd.fst.fst) ∧
          (m1_34 = v'.snd.snd.snd.fst.snd.fst) ∧
          (ys_35 = v'.snd.snd.snd.fst.snd.snd) ∧
          ((0 : Nat) = (0 : Nat)) ∧
          (l.length = l.length) ∧
          (a1_52 = v'.snd.snd.snd.snd.fst) ∧
          (m1_53 = v'.snd.snd.snd.snd.snd.fst) ∧
          (ys_54 = v'.snd.snd.snd.snd.snd.snd) ∧
          (
           (
            ((0 : Int) ≤ v'.snd.snd.fst) ∧
            (v'.snd.snd.fst ≤ (↑l.length : Int))) ∧
           (
            (
             ((1 : Nat) ≤ l.length) ∧
             (l.length ≤ (1024 : Nat))) ∧
            (v'.snd.snd.snd.fst.snd.snd.length = l.length) ∧
            (
             ((0 : Int) ≤ v'.snd.snd.snd.fst.fst) ∧
             (v'.snd.snd.snd.fst.fst < (↑l.length : Int))) ∧
            ((0 : Int) ≤ v'.snd.snd.snd.fst.snd.fst) ∧
            (v'.snd.snd.snd.fst.snd.fst ≤ (↑l.length : Int))) ∧
           (
            (
             ((1 : Nat) ≤ l.length) ∧
             (l.length ≤ (1024 : Nat))) ∧
            (v'.snd.snd.snd.snd.snd.snd.length = l.length) ∧
            (
             ((0 : Int) ≤ v'.snd.snd.snd.snd.fst) ∧
             (v'.snd.snd.snd.snd.fst < (↑l.length : Int))) ∧
            ((0 : Int) ≤ v'.snd.snd.snd.snd.snd.fst) ∧
            (v'.snd.snd.snd.snd.snd.fst ≤ (↑l.length : Int))) ∧
           (RInv l.length v'.snd.snd.snd.fst.fst v'.snd.snd.snd.fst.snd.fst v'.snd.snd.snd.fst.snd.snd (List.take v'.snd.snd.fst.toNat l)) ∧
           (RInv l.length v'.snd.snd.snd.snd.fst v'.snd.snd.snd.snd.snd.fst v'.snd.snd.snd.snd.snd.snd (List.take v'.snd.snd.fst.toNat l.reverse)) ∧
           ((v'.snd.fst = true) →
           (v'.fst = sumL (List.take v'.snd.snd.fst.toNat l)) ∧
           ((-1125899906842624 : Int) * v'.snd.snd.fst ≤ v'.fst) ∧
           (v'.fst ≤ (1125899906842624 : Int) * v'.snd.snd.fst))) ∧
          (((↑l.length : Int) - v'.snd.snd.fst).toNat < ((↑l.length : Int) - v_25.snd.snd.fst).toNat)))
       ((
         (
          ((1 : Nat) ≤ l.length) ∧
          (l.length ≤ (1024 : Nat))) ∧
         (v_25.snd.snd.snd.fst.snd.snd.length = l.length) ∧
         (
          ((0 : Int) ≤ v_25.snd.snd.snd.fst.fst) ∧
          (v_25.snd.snd.snd.fst.fst < (↑l.length : Int))) ∧
         ((0 : Int) ≤ v_25.snd.snd.snd.fst.snd.fst) ∧
         (v_25.snd.snd.snd.fst.snd.fst ≤ (↑l.length : Int))) ∧
        ∀ (s_79 : Int),
        (s_79 = clampS (sumR l.length v_25.snd.snd.snd.fst.fst v_25.snd.snd.snd.fst.snd.snd v_25.snd.snd.snd.fst.snd.fst.toNat)) →
        ((-4611686018427387904 : Int) ≤ s_79 ∧ s_79 ≤ (4611686018427387904 : Int)) →
        (
         (
          ((1 : Nat) ≤ l.length) ∧
          (l.length ≤ (1024 : Nat))) ∧
         (v_25.snd.snd.snd.snd.snd.snd.length = l.length) ∧
         (
          ((0 : Int) ≤ v_25.snd.snd.snd.snd.fst) ∧
          (v_25.snd.snd.snd.snd.fst < (↑l.length : Int))) ∧
         ((0 : Int) ≤ v_25.snd.snd.snd.snd.snd.fst) ∧
         (v_25.snd.snd.snd.snd.snd.fst ≤ (↑l.length : Int))) ∧
        ∀ (s_82 : Int),
        (s_82 = clampS (sumR l.length v_25.snd.snd.snd.snd.fst v_25.snd.snd.snd.snd.snd.snd v_25.snd.snd.snd.snd.snd.fst.toNat)) →
        ((-4611686018427387904 : Int) ≤ s_82 ∧ s_82 ≤ (4611686018427387904 : Int)) →
        (k (AV.bool (bif bif bif bif bif bif true then (0 : Int) == (0 : Int) else false then (0 : Int) == (0 : Int) else false then s_79 == s_82 else false then decide (s_79 ≤ (4611686018427387904 : Int)) else false then decide (s_79 ≥ (-4611686018427387904 : Int)) else false then bif !v_25.snd.fst then true else s_79 == v_25.fst else false)) [] []))) ∧
     ((n15 < (1 : Int) ∨ (1024 : Int) < n15) →
     (k (AV.bool false) [] []))) ∧
    ((n6 < (1 : Int) ∨ (1024 : Int) < n6) →
    ∀ (n85 : Int),
    (n85 = (↑l.length : Int)) →
    ((-9223372036854775808 : Int) ≤ n85 ∧ n85 ≤ (9223372036854775807 : Int)) →
    (
     ((-9223372036854775808 : Int) ≤ n85) ∧
     (n85 ≤ (9223372036854775807 : Int))) ∧
    (
     ((1 : Int) ≤ n85) →
     (n85 ≤ (1024 : Int)) →
     ∀ (q_90 : Nat),
     ∀ (xs_91 : List Int),
     ((↑q_90 : Int) = n85) →
     (xs_91 = List.replicate q_90 (0 : Int)) →
     (k (AV.bool false) [] [])) ∧
    ((n85 < (1 : Int) ∨ (1024 : Int) < n85) →
    (k (AV.bool false) [] [])))) := by
  intro n1
  intro q1 -- n1 = (↑l.length : Int)
  intro ⟨l1, u1⟩ -- (-9223372036854775808 : Int) ≤ n1 ∧ n1 ≤ (9223372036854775807 : Int)
  intro n4
  intro q4 -- n4 = (↑l.length : Int)
  refine br_intro (fun c1 => ?_) (fun c1 => ?_) -- bif decide (n1 < (1 : Int)) then true else decide (n4 > (400 : Int))
  · -- yes
    simp at c1 -- n1 < (1 : Int) ∨ (400 : Int) < n4
    exact by exact hk -- k (AV.bool true) [] []
  · -- no
    simp at c1 -- (1 : Int) ≤ n1 ∧ n4 ≤ (400 : Int)
    intro n6
    intro q6 -- n6 = (↑l.length : Int)
    intro ⟨l6, u6⟩ -- (-9223372036854775808 : Int) ≤ n6 ∧ n6 ≤ (9223372036854775807 : Int)
    refine ⟨by exact ⟨by assumption, by assumption⟩, ?_⟩ -- (-9223372036854775808 : Int) ≤ n6 ∧ n6 ≤ (9223372036854775807 : Int)
    refine ⟨?_, ?_⟩
    · -- left
      intro h2 -- (1 : Int) ≤ n6
      intro h3 -- n6 ≤ (1024 : Int)
      intro q_11
      intro xs_12
      intro h4 -- (↑q_11 : Int) = n6
      intro h5 -- xs_12 = List.replicate q_11 (0 : Int)
      intro n15
      intro q15 -- n15 = (↑l.length : Int)
      intro ⟨l15, u15⟩ -- (-9223372036854775808 : Int) ≤ n15 ∧ n15 ≤ (9223372036854775807 : Int)
      refine ⟨by exact ⟨by assumption, by assumption⟩, ?_⟩ -- (-9223372036854775808 : Int) ≤ n15 ∧ n15 ≤ (9223372036854775807 : Int)
      refine ⟨?_, ?_⟩
      · -- left
        intro h6 -- (1 : Int) ≤ n15
        intro h7 -- n15 ≤ (1024 : Int)
        intro q_20
        intro xs_21
        intro h8 -- (↑q_20 : Int) = n15
        intro h9 -- xs_21 = List.replicate q_20 (0 : Int)
        refine ⟨?_, ?_⟩
        · -- left
          refine ⟨((0 : Int), true, (0 : Int), ((0 : Int), (0 : Int), xs_12), (0 : Int), (0 : Int), xs_21), ?_⟩
          refine ⟨by first | with_reducible rfl | rfl, ?_⟩ -- l = l
          refine ⟨by first | with_reducible rfl | rfl, ?_⟩ -- true = true
          refine ⟨by first | with_reducible rfl | rfl, ?_⟩ -- (0 : Int) = (0 : Int)
          refine ⟨by first | with_reducible rfl | rfl, ?_⟩ -- true = true
          refine ⟨by first | with_reducible rfl | rfl, ?_⟩ -- (0 : Int) = (0 : Int)
          refine ⟨by first | with_reducible rfl | rfl, ?_⟩ -- (0 : Nat) = (0 : Nat)
          refine ⟨by show q_11 = l.length; omega, ?_⟩ -- q_11 = l.length
          refine ⟨by first | with_reducible rfl | rfl, ?_⟩ -- (0 : Int) = (0 : Int)
          refine ⟨by first | with_reducible rfl | rfl, ?_⟩ -- (0 : Int) = (0 : Int)
          refine ⟨by first | with_reducible rfl | rfl, ?_⟩ -- xs_12 = xs_12
          refine ⟨by first | with_reducible rfl | rfl, ?_⟩ -- (0 : Nat) = (0 : Nat)
          refine ⟨by show q_20 = l.length; omega, ?_⟩ -- q_20 = l.length
          refine ⟨by first | with_reducible rfl | rfl, ?_⟩ -- (0 : Int) = (0 : Int)
          refine ⟨by first | with_reducible rfl | rfl, ?_⟩ -- (0 : Int) = (0 : Int)
          refine ⟨by first | with_reducible rfl | rfl, ?_⟩ -- xs_21 = xs_21
          refine ⟨by first | omega | (dsimp only; omega), ?_⟩ -- (0 : Int) ≤ (0 : Int) ∧ (0 : Int) ≤ (↑l.length : Int)
          refine ⟨?_, ?_⟩
          · -- left
            refine ⟨by first | omega | (dsimp only; omega), ?_⟩ -- (1 : Nat) ≤ l.length ∧ l.length ≤ (1024 : Nat)
            have h10 : xs_12.length = l.length := by
              rw [h5]; simp; omega
            refine ⟨h10, ?_⟩
            refine ⟨by first | omega | (dsimp only; omega), ?_⟩ -- (0 : Int) ≤ (0 : Int) ∧ (0 : Int) < (↑l.length : Int)
            refine ⟨by show (0 : Int) ≤ (0 : Int); omega, ?_⟩ -- (0 : Int) ≤ (0 : Int)
            exact by show (0 : Int) ≤ (↑l.length : Int); omega -- (0 : Int) ≤ (↑l.length : Int)
          refine ⟨?_, ?_⟩
          · -- left
            refine ⟨by first | omega | (dsimp only; omega), ?_⟩ -- (1 : Nat) ≤ l.length ∧ l.length ≤ (1024 : Nat)
            have h11 : xs_21.length = l.length := by
              rw [h9]; simp; omega
            refine ⟨h11, ?_⟩
            refine ⟨by first | omega | (dsimp only; omega), ?_⟩ -- (0 : Int) ≤ (0 : Int) ∧ (0 : Int) < (↑l.length : Int)
            refine ⟨by show (0 : Int) ≤ (0 : Int); omega, ?_⟩ -- (0 : Int) ≤ (0 : Int)
            exact by show (0 : Int) ≤ (↑l.length : Int); omega -- (0 : Int) ≤ (↑l.length : Int)
          have h12 : RInv l.length (0 : Int) (0 : Int) xs_12 (List.take (Int.toNat (0 : Int)) l) := by
            rw [h5, show q_11 = l.length by omega]; exact rinv_new (by omega)
          refine ⟨h12, ?_⟩
          have h13 : RInv l.length (0 : Int) (0 : Int) xs_21 (List.take (Int.toNat (0 : Int)) l.reverse) := by
            rw [h9, show q_20 = l.length by omega]; exact rinv_new (by omega)
          refine ⟨h13, ?_⟩
          intro h14 -- true = true
          simp at h14 -- True
          refine ⟨by rfl, ?_⟩ -- (0 : Int) = sumL (List.take (Int.toNat (0 : Int)) l)
          refine ⟨by show (-1125899906842624 : Int) * (0 : Int) ≤ (0 : Int); omega, ?_⟩ -- (-1125899906842624 : Int) * (0 : Int) ≤ (0 : Int)
          exact by show (0 : Int) ≤ (1125899906842624 : Int) * (0 : Int); omega -- (0 : Int) ≤ (1125899906842624 : Int) * (0 : Int)
        intro v_25
        intro h15 -- ((0 : Int) ≤ v_25.snd.snd.fst ∧ v_25.snd.snd.fst ≤ (↑l.length : Int)) ∧ (((1 : Nat) ≤ l.length ∧ l.length ≤ (1024 : Nat)) ∧ v_25.snd.snd.snd.fst.snd.snd.length = l.length ∧ ((0 : Int) ≤ v_25.snd.snd.snd.fst.fst ∧ v_25.snd.snd.snd.fst.fst < (↑l.length : Int)) ∧ (0 : Int) ≤ v_25.snd.snd.snd.fst.snd.fst ∧ v_25.snd.snd.snd.fst.snd.fst ≤ (↑l.length : Int)) ∧ (((1 : Nat) ≤ l.length ∧ l.length ≤ (1024 : Nat)) ∧ v_25.snd.snd.snd.snd.snd.snd.length = l.length ∧ ((0 : Int) ≤ v_25.snd.snd.snd.snd.fst ∧ v_25.snd.snd.snd.snd.fst < (↑l.length : Int)) ∧ (0 : Int) ≤ v_25.snd.snd.snd.snd.snd.fst ∧ v_25.snd.snd.snd.snd.snd.fst ≤ (↑l.length : Int)) ∧ RInv l.length v_25.snd.snd.snd.fst.fst v_25.snd.snd.snd.fst.snd.fst v_25.snd.snd.snd.fst.snd.snd (List.take v_25.snd.snd.fst.toNat l) ∧ RInv l.length v_25.snd.snd.snd.snd.fst v_25.snd.snd.snd.snd.snd.fst v_25.snd.snd.snd.snd.snd.snd (List.take v_25.snd.snd.fst.toNat l.reverse) ∧ (v_25.snd.fst = true → v_25.fst = sumL (List.take v_25.snd.snd.fst.toNat l) ∧ (-1125899906842624 : Int) * v_25.snd.snd.fst ≤ v_25.fst ∧ v_25.fst ≤ (1125899906842624 : Int) * v_25.snd.snd.fst)
        intro n27
        intro q27 -- n27 = (↑l.length : Int)
        intro ⟨l27, u27⟩ -- (-9223372036854775808 : Int) ≤ n27 ∧ n27 ≤ (9223372036854775807 : Int)
        refine brd (fun c16 => ?_) (fun c16 => ?_) -- decide (v_25.snd.snd.fst < n27)
        · -- yes
          refine ⟨by first | omega | (dsimp only; omega), ?_⟩ -- (0 : Int) ≤ v_25.snd.snd.fst
          refine ⟨by first | omega | (dsimp only; omega), ?_⟩ -- v_25.snd.snd.fst < (↑l.length : Int)
          intro n30
          intro q30 -- n30 = l.getD v_25.snd.snd.fst.toNat (0 : Int)
          intro ⟨l30, u30⟩ -- (-9223372036854775808 : Int) ≤ n30 ∧ n30 ≤ (9223372036854775807 : Int)
          refine ⟨?_, ?_⟩
          · -- left
            refine ⟨by first | omega | (dsimp only; omega), ?_⟩ -- (1 : Nat) ≤ l.length ∧ l.length ≤ (1024 : Nat)
            refine ⟨by first | omega | (dsimp only; omega), ?_⟩ -- v_25.snd.snd.snd.fst.snd.snd.length = l.length
            refine ⟨by first | omega | (dsimp only; omega), ?_⟩ -- (0 : Int) ≤ v_25.snd.snd.snd.fst.fst ∧ v_25.snd.snd.snd.fst.fst < (↑l.length : Int)
            refine ⟨by first | omega | (dsimp only; omega), ?_⟩ -- (0 : Int) ≤ v_25.snd.snd.snd.fst.snd.fst
            exact by omega -- v_25.snd.snd.snd.fst.snd.fst ≤ (↑l.length : Int)
          refine ⟨by exact ⟨by assumption, by assumption⟩, ?_⟩ -- (-9223372036854775808 : Int) ≤ n30 ∧ n30 ≤ (9223372036854775807 : Int)
          intro a1_33
          intro m1_34
          intro ys_35
          intro h17 -- a1_33 = (v_25.snd.snd.snd.fst.fst + (1 : Int)) % (↑l.length : Int)
          intro h18 -- m1_34 = min (v_25.snd.snd.snd.fst.snd.fst + (1 : Int)) (↑l.length : Int)
          intro h19 -- ys_35 = v_25.snd.snd.snd.fst.snd.snd.set v_25.snd.snd.snd.fst.fst.toNat n30
          intro h20 -- ((1 : Nat) ≤ l.length ∧ l.length ≤ (1024 : Nat)) ∧ ys_35.length = l.length ∧ ((0 : Int) ≤ a1_33 ∧ a1_33 < (↑l.length : Int)) ∧ (0 : Int) ≤ m1_34 ∧ m1_34 ≤ (↑l.length : Int)
          intro n40
          intro q40 -- n40 = (↑l.length : Int)
          intro ⟨l40, u40⟩ -- (-9223372036854775808 : Int) ≤ n40 ∧ n40 ≤ (9223372036854775807 : Int)
          intro n43
          intro q43 -- n43 = IntKind.i64.wrap (n40 - (1 : Int))
          rw [IntKind.wrap_i64] at q43
          intro ⟨l43, u43⟩ -- (-9223372036854775808 : Int) ≤ n43 ∧ n43 ≤ (9223372036854775807 : Int)
          intro n46
          intro q46 -- n46 = IntKind.i64.wrap (n43 - v_25.snd.snd.fst)
          rw [IntKind.wrap_i64] at q46
          intro ⟨l46, u46⟩ -- (-9223372036854775808 : Int) ≤ n46 ∧ n46 ≤ (9223372036854775807 : Int)
          refine ⟨by first | omega | (dsimp only; omega), ?_⟩ -- (0 : Int) ≤ n46
          refine ⟨by first | omega | (dsimp only; omega), ?_⟩ -- n46 < (↑l.length : Int)
          intro n49
          intro q49 -- n49 = l.getD n46.toNat (0 : Int)
          intro ⟨l49, u49⟩ -- (-9223372036854775808 : Int) ≤ n49 ∧ n49 ≤ (9223372036854775807 : Int)
          refine ⟨?_, ?_⟩
          · -- left
            refine ⟨by first | omega | (dsimp only; omega), ?_⟩ -- (1 : Nat) ≤ l.length ∧ l.length ≤ (1024 : Nat)
            refine ⟨by first | omega | (dsimp only; omega), ?_⟩ -- v_25.snd.snd.snd.snd.snd.snd.length = l.length
            refine ⟨by first | omega | (dsimp only; omega), ?_⟩ -- (0 : Int) ≤ v_25.snd.snd.snd.snd.fst ∧ v_25.snd.snd.snd.snd.fst < (↑l.length : Int)
            refine ⟨by first | omega | (dsimp only; omega), ?_⟩ -- (0 : Int) ≤ v_25.snd.snd.snd.snd.snd.fst
            exact by omega -- v_25.snd.snd.snd.snd.snd.fst ≤ (↑l.length : Int)
          refine ⟨by exact ⟨by assumption, by assumption⟩, ?_⟩ -- (-9223372036854775808 : Int) ≤ n49 ∧ n49 ≤ (9223372036854775807 : Int)
          intro a1_52
          intro m1_53
          intro ys_54
          intro h21 -- a1_52 = (v_25.snd.snd.snd.snd.fst + (1 : Int)) % (↑l.length : Int)
          intro h22 -- m1_53 = min (v_25.snd.snd.snd.snd.snd.fst + (1 : Int)) (↑l.length : Int)
          intro h23 -- ys_54 = v_25.snd.snd.snd.snd.snd.snd.set v_25.snd.snd.snd.snd.fst.toNat n49
          intro h24 -- ((1 : Nat) ≤ l.length ∧ l.length ≤ (1024 : Nat)) ∧ ys_54.length = l.length ∧ ((0 : Int) ≤ a1_52 ∧ a1_52 < (↑l.length : Int)) ∧ (0 : Int) ≤ m1_53 ∧ m1_53 ≤ (↑l.length : Int)
          refine ⟨?_, ?_⟩
          · -- left
            intro h25 -- v_25.snd.fst = true
            refine ⟨by first | omega | (dsimp only; omega), ?_⟩ -- (0 : Int) ≤ v_25.snd.snd.fst
            exact by omega -- v_25.snd.snd.fst < (↑l.length : Int)
          intro n60
          intro q60 -- n60 = l.getD v_25.snd.snd.fst.toNat (0 : Int)
          refine ⟨?_, ?_⟩
          · -- left
            intro q60 -- (bif v_25.snd.fst then decide (n60 > (-1125899906842624 : Int)) else false) = true
            simp at q60 -- v_25.snd.fst = true ∧ (-1125899906842624 : Int) < n60
            refine ⟨by first | omega | (dsimp only; omega), ?_⟩ -- (0 : Int) ≤ v_25.snd.snd.fst
            exact by omega -- v_25.snd.snd.fst < (↑l.length : Int)
          intro n63
          intro q63 -- n63 = l.getD v_25.snd.snd.fst.toNat (0 : Int)
          refine br_intro (fun c26 => ?_) (fun c26 => ?_) -- bif bif v_25.snd.fst then decide (n60 > (-1125899906842624 : Int)) else false then decide (n63 < (1125899906842624 : Int)) else false
          · -- yes
            simp at c26 -- (v_25.snd.fst = true ∧ (-1125899906842624 : Int) < n60) ∧ n63 < (1125899906842624 : Int)
            refine ⟨by first | omega | (dsimp only; omega), ?_⟩ -- (0 : Int) ≤ v_25.snd.snd.fst
            refine ⟨by first | omega | (dsimp only; omega), ?_⟩ -- v_25.snd.snd.fst < (↑l.length : Int)
            intro n65
            intro q65 -- n65 = l.getD v_25.snd.snd.fst.toNat (0 : Int)
            intro ⟨l65, u65⟩ -- (-9223372036854775808 : Int) ≤ n65 ∧ n65 ≤ (9223372036854775807 : Int)
            intro n68
            intro q68 -- n68 = IntKind.i64.wrap (v_25.fst + n65)
            rw [IntKind.wrap_i64] at q68
            intro ⟨l68, u68⟩ -- (-9223372036854775808 : Int) ≤ n68 ∧ n68 ≤ (9223372036854775807 : Int)
            intro n71
            intro q71 -- n71 = IntKind.i64.wrap (v_25.snd.snd.fst + (1 : Int))
            rw [IntKind.wrap_i64] at q71
            intro ⟨l71, u71⟩ -- (-9223372036854775808 : Int) ≤ n71 ∧ n71 ≤ (9223372036854775807 : Int)
            refine ⟨(n68, bif bif v_25.snd.fst then decide (n60 > (-1125899906842624 : Int)) else false then decide (n63 < (1125899906842624 : Int)) else false, n71, (a1_33, m1_34, ys_35), a1_52, m1_53, ys_54), ?_⟩
            refine ⟨by first | with_reducible rfl | rfl, ?_⟩ -- l = l
            refine ⟨by first | with_reducible rfl | rfl, ?_⟩ -- true = true
            refine ⟨by first | with_reducible rfl | rfl, ?_⟩ -- n68 = n68
            refine ⟨by first | with_reducible rfl | rfl, ?_⟩ -- (bif bif v_25.snd.fst then decide (n60 > (-1125899906842624 : Int)) else false then decide (n63 < (1125899906842624 : Int)) else false) = bif bif v_25.snd.fst then decide (n60 > (-1125899906842624 : Int)) else false then decide (n63 < (1125899906842624 : Int)) else false
            refine ⟨by first | with_reducible rfl | rfl, ?_⟩ -- n71 = n71
            refine ⟨by first | with_reducible rfl | rfl, ?_⟩ -- (0 : Nat) = (0 : Nat)
            refine ⟨by first | with_reducible rfl | rfl, ?_⟩ -- l.length = l.length
            refine ⟨by first | with_reducible rfl | rfl, ?_⟩ -- a1_33 = a1_33
            refine ⟨by first | with_reducible rfl | rfl, ?_⟩ -- m1_34 = m1_34
            refine ⟨by first | with_reducible rfl | rfl, ?_⟩ -- ys_35 = ys_35
            refine ⟨by first | with_reducible rfl | rfl, ?_⟩ -- (0 : Nat) = (0 : Nat)
            refine ⟨by first | with_reducible rfl | rfl, ?_⟩ -- l.length = l.length
            refine ⟨by first | with_reducible rfl | rfl, ?_⟩ -- a1_52 = a1_52
            refine ⟨by first | with_reducible rfl | rfl, ?_⟩ -- m1_53 = m1_53
            refine ⟨by first | with_reducible rfl | rfl, ?_⟩ -- ys_54 = ys_54
            refine ⟨?_, ?_⟩
            · -- left
              refine ⟨by first | omega | (dsimp only; omega), ?_⟩ -- (0 : Int) ≤ n71 ∧ n71 ≤ (↑l.length : Int)
              refine ⟨?_, ?_⟩
              · -- left
                refine ⟨by first | omega | (dsimp only; omega), ?_⟩ -- (1 : Nat) ≤ l.length ∧ l.length ≤ (1024 : Nat)
                refine ⟨by show ys_35.length = l.length; omega, ?_⟩ -- ys_35.length = l.length
                refine ⟨by first | omega | (dsimp only; omega), ?_⟩ -- (0 : Int) ≤ a1_33 ∧ a1_33 < (↑l.length : Int)
                refine ⟨by show (0 : Int) ≤ m1_34; omega, ?_⟩ -- (0 : Int) ≤ m1_34
                exact by show m1_34 ≤ (↑l.length : Int); omega -- m1_34 ≤ (↑l.length : Int)
              refine ⟨?_, ?_⟩
              · -- left
                refine ⟨by first | omega | (dsimp only; omega), ?_⟩ -- (1 : Nat) ≤ l.length ∧ l.length ≤ (1024 : Nat)
                refine ⟨by show ys_54.length = l.length; omega, ?_⟩ -- ys_54.length = l.length
                refine ⟨by first | omega | (dsimp only; omega), ?_⟩ -- (0 : Int) ≤ a1_52 ∧ a1_52 < (↑l.length : Int)
                refine ⟨by show (0 : Int) ≤ m1_53; omega, ?_⟩ -- (0 : Int) ≤ m1_53
                exact by show m1_53 ≤ (↑l.length : Int); omega -- m1_53 ≤ (↑l.length : Int)
              have h27 : RInv l.length a1_33 m1_34 ys_35 (List.take n71.toNat l) := by
                rw [h17, h18, h19, show n71 = v_25.snd.snd.fst + 1 by omega, take_next (by omega) (by omega), ← q30]
                exact rinv_push h15.2.2.2.1 n30
              refine ⟨h27, ?_⟩
              have h28 : RInv l.length a1_52 m1_53 ys_54 (List.take n71.toNat l.reverse) := by
                rw [h21, h22, h23, show n71 = v_25.snd.snd.fst + 1 by omega, take_next (by omega) (by rw [List.length_reverse]; omega), rev_get (by omega), show l.length - 1 - v_25.snd.snd.fst.toNat = n46.toNat by omega, ← q49]
                exact rinv_push h15.2.2.2.2.1 n49
              refine ⟨h28, ?_⟩
              intro h29 -- (bif bif v_25.snd.fst then decide (n60 > (-1125899906842624 : Int)) else false then decide (n63 < (1125899906842624 : Int)) else false) = true
              simp at h29 -- (v_25.snd.fst = true ∧ (-1125899906842624 : Int) < n60) ∧ n63 < (1125899906842624 : Int)
              have h30 : n68 = sumL (List.take n71.toNat l) := by
                have S := h15.2.2.2.2.2 c26.1.1
                rw [show n71 = v_25.snd.snd.fst + 1 by omega, sumL_next (by omega) (by omega), ← S.1]
                have b1 := c26.1.2
                have b2 := c26.2
                have i1 := h15.1
                clear h15 h20 h24 q40 q43 q46 q49
                omega
              refine ⟨h30, ?_⟩
              have h31 : (-1125899906842624 : Int) * n71 ≤ n68 := by
                have S := h15.2.2.2.2.2 c26.1.1
                have b1 := c26.1.2
                have b2 := c26.2
                have i1 := h15.1
                clear h15 h20 h24 q40 q43 q46 q49 h30
                (try clear h31)
                (try dsimp only)
                omega
              refine ⟨h31, ?_⟩
              -- n68 ≤ (1125899906842624 : Int) * n71
              have S := h15.2.2.2.2.2 c26.1.1
              have b1 := c26.1.2
              have b2 := c26.2
              have i1 := h15.1
              clear h15 h20 h24 q40 q43 q46 q49 h30
              (try clear h31)
              (try dsimp only)
              omega
            exact by show ((↑l.length : Int) - n71).toNat < ((↑l.length : Int) - v_25.snd.snd.fst).toNat; omega -- ((↑l.length : Int) - n71).toNat < ((↑l.length : Int) - v_25.snd.snd.fst).toNat
          · -- no
            simp at c26 -- v_25.snd.fst = true → (-1125899906842624 : Int) < n60 → (1125899906842624 : Int) ≤ n63
            intro n75
            intro q75 -- n75 = IntKind.i64.wrap (v_25.snd.snd.fst + (1 : Int))
            rw [IntKind.wrap_i64] at q75
            intro ⟨l75, u75⟩ -- (-9223372036854775808 : Int) ≤ n75 ∧ n75 ≤ (9223372036854775807 : Int)
            refine ⟨(v_25.fst, bif bif v_25.snd.fst then decide (n60 > (-1125899906842624 : Int)) else false then decide (n63 < (1125899906842624 : Int)) else false, n75, (a1_33, m1_34, ys_35), a1_52, m1_53, ys_54), ?_⟩
            refine ⟨by first | with_reducible rfl | rfl, ?_⟩ -- l = l
            refine ⟨by first | with_reducible rfl | rfl, ?_⟩ -- true = true
            refine ⟨by first | with_reducible rfl | rfl, ?_⟩ -- v_25.fst = v_25.fst
            refine ⟨by first | with_reducible rfl | rfl, ?_⟩ -- (bif bif v_25.snd.fst then decide (n60 > (-1125899906842624 : Int)) else false then decide (n63 < (1125899906842624 : Int)) else false) = bif bif v_25.snd.fst then decide (n60 > (-1125899906842624 : Int)) else false then decide (n63 < (1125899906842624 : Int)) else false
            refine ⟨by first | with_reducible rfl | rfl, ?_⟩ -- n75 = n75
            refine ⟨by first | with_reducible rfl | rfl, ?_⟩ -- (0 : Nat) = (0 : Nat)
            refine ⟨by first | with_reducible rfl | rfl, ?_⟩ -- l.length = l.length
            refine ⟨by first | with_reducible rfl | rfl, ?_⟩ -- a1_33 = a1_33
            refine ⟨by first | with_reducible rfl | rfl, ?_⟩ -- m1_34 = m1_34
            refine ⟨by first | with_reducible rfl | rfl, ?_⟩ -- ys_35 = ys_35
            refine ⟨by first | with_reducible rfl | rfl, ?_⟩ -- (0 : Nat) = (0 : Nat)
            refine ⟨by first | with_reducible rfl | rfl, ?_⟩ -- l.length = l.length
            refine ⟨by first | with_reducible rfl | rfl, ?_⟩ -- a1_52 = a1_52
            refine ⟨by first | with_reducible rfl | rfl, ?_⟩ -- m1_53 = m1_53
            refine ⟨by first | with_reducible rfl | rfl, ?_⟩ -- ys_54 = ys_54
            refine ⟨?_, ?_⟩
            · -- left
              refine ⟨by first | omega | (dsimp only; omega), ?_⟩ -- (0 : Int) ≤ n75 ∧ n75 ≤ (↑l.length : Int)
              refine ⟨?_, ?_⟩
              · -- left
                refine ⟨by first | omega | (dsimp only; omega), ?_⟩ -- (1 : Nat) ≤ l.length ∧ l.length ≤ (1024 : Nat)
                refine ⟨by show ys_35.length = l.length; omega, ?_⟩ -- ys_35.length = l.length
                refine ⟨by first | omega | (dsimp only; omega), ?_⟩ -- (0 : Int) ≤ a1_33 ∧ a1_33 < (↑l.length : Int)
                refine ⟨by show (0 : Int) ≤ m1_34; omega, ?_⟩ -- (0 : Int) ≤ m1_34
                exact by show m1_34 ≤ (↑l.length : Int); omega -- m1_34 ≤ (↑l.length : Int)
              refine ⟨?_, ?_⟩
              · -- left
                refine ⟨by first | omega | (dsimp only; omega), ?_⟩ -- (1 : Nat) ≤ l.length ∧ l.length ≤ (1024 : Nat)
                refine ⟨by show ys_54.length = l.length; omega, ?_⟩ -- ys_54.length = l.length
                refine ⟨by first | omega | (dsimp only; omega), ?_⟩ -- (0 : Int) ≤ a1_52 ∧ a1_52 < (↑l.length : Int)
                refine ⟨by show (0 : Int) ≤ m1_53; omega, ?_⟩ -- (0 : Int) ≤ m1_53
                exact by show m1_53 ≤ (↑l.length : Int); omega -- m1_53 ≤ (↑l.length : Int)
              have h32 : RInv l.length a1_33 m1_34 ys_35 (List.take n75.toNat l) := by
                rw [h17, h18, h19, show n75 = v_25.snd.snd.fst + 1 by omega, take_next (by omega) (by omega), ← q30]
                exact rinv_push h15.2.2.2.1 n30
              refine ⟨h32, ?_⟩
              have h33 : RInv l.length a1_52 m1_53 ys_54 (List.take n75.toNat l.reverse) := by
                rw [h21, h22, h23, show n75 = v_25.snd.snd.fst + 1 by omega, take_next (by omega) (by rw [List.length_reverse]; omega), rev_get (by omega), show l.length - 1 - v_25.snd.snd.fst.toNat = n46.toNat by omega, ← q49]
                exact rinv_push h15.2.2.2.2.1 n49
              refine ⟨h33, ?_⟩
              intro h34 -- (bif bif v_25.snd.fst then decide (n60 > (-1125899906842624 : Int)) else false then decide (n63 < (1125899906842624 : Int)) else false) = true
              simp at h34 -- (v_25.snd.fst = true ∧ (-1125899906842624 : Int) < n60) ∧ n63 < (1125899906842624 : Int)
              have h35 : v_25.fst = sumL (List.take n75.toNat l) := by
                exact absurd h34.2 (by have := c26 h34.1.1 h34.1.2; omega)
              refine ⟨h35, ?_⟩
              have h36 : (-1125899906842624 : Int) * n75 ≤ v_25.fst := by
                exact absurd h34.2 (by have := c26 h34.1.1 h34.1.2; omega)
              refine ⟨h36, ?_⟩
              -- v_25.fst ≤ (1125899906842624 : Int) * n75
              exact absurd h34.2 (by have := c26 h34.1.1 h34.1.2; omega)
            exact by show ((↑l.length : Int) - n75).toNat < ((↑l.length : Int) - v_25.snd.snd.fst).toNat; omega -- ((↑l.length : Int) - n75).toNat < ((↑l.length : Int) - v_25.snd.snd.fst).toNat
        · -- no
          refine ⟨?_, ?_⟩
          · -- left
            refine ⟨by first | omega | (dsimp only; omega), ?_⟩ -- (1 : Nat) ≤ l.length ∧ l.length ≤ (1024 : Nat)
            refine ⟨by first | omega | (dsimp only; omega), ?_⟩ -- v_25.snd.snd.snd.fst.snd.snd.length = l.length
            refine ⟨by first | omega | (dsimp only; omega), ?_⟩ -- (0 : Int) ≤ v_25.snd.snd.snd.fst.fst ∧ v_25.snd.snd.snd.fst.fst < (↑l.length : Int)
            refine ⟨by first | omega | (dsimp only; omega), ?_⟩ -- (0 : Int) ≤ v_25.snd.snd.snd.fst.snd.fst
            exact by omega -- v_25.snd.snd.snd.fst.snd.fst ≤ (↑l.length : Int)
          intro s_79
          intro h37 -- s_79 = clampS (sumR l.length v_25.snd.snd.snd.fst.fst v_25.snd.snd.snd.fst.snd.snd v_25.snd.snd.snd.fst.snd.fst.toNat)
          intro ⟨a38, b38⟩ -- (-4611686018427387904 : Int) ≤ s_79 ∧ s_79 ≤ (4611686018427387904 : Int)
          refine ⟨?_, ?_⟩
          · -- left
            refine ⟨by first | omega | (dsimp only; omega), ?_⟩ -- (1 : Nat) ≤ l.length ∧ l.length ≤ (1024 : Nat)
            refine ⟨by first | omega | (dsimp only; omega), ?_⟩ -- v_25.snd.snd.snd.snd.snd.snd.length = l.length
            refine ⟨by first | omega | (dsimp only; omega), ?_⟩ -- (0 : Int) ≤ v_25.snd.snd.snd.snd.fst ∧ v_25.snd.snd.snd.snd.fst < (↑l.length : Int)
            refine ⟨by first | omega | (dsimp only; omega), ?_⟩ -- (0 : Int) ≤ v_25.snd.snd.snd.snd.snd.fst
            exact by omega -- v_25.snd.snd.snd.snd.snd.fst ≤ (↑l.length : Int)
          intro s_82
          intro h39 -- s_82 = clampS (sumR l.length v_25.snd.snd.snd.snd.fst v_25.snd.snd.snd.snd.snd.snd v_25.snd.snd.snd.snd.snd.fst.toNat)
          intro ⟨a40, b40⟩ -- (-4611686018427387904 : Int) ≤ s_82 ∧ s_82 ≤ (4611686018427387904 : Int)
          -- k (AV.bool (bif bif bif bif bif bif true then (0 : Int) == (0 : Int) else false then (0 : Int) == (0 : Int) else false then s_79 == s_82 else false then decide (s_79 ≤ (4611686018427387904 : Int)) else false then decide (s_79 ≥ (-4611686018427387904 : Int)) else false then bif !v_25.snd.fst then true else s_79 == v_25.fst else false)) [] []
          have e : v_25.snd.snd.fst = l.length := by omega
          have t1 := h15.2.2.2.1
          have t2 := h15.2.2.2.2.1
          have S := h15.2.2.2.2.2
          rw [e] at t1 t2 S
          rw [List.take_of_length_le (by simp)] at t1 S
          rw [List.take_of_length_le (by simp)] at t2
          have e1 : s_79 = clampS (sumL l) := by rw [h37, sumR_all t1, lastL_full (by omega)]
          have e2 : s_82 = clampS (sumL l) := by rw [h39, sumR_all t2, lastL_full (by simp), sumL_reverse]
          have e3 : s_79 = s_82 := e1.trans e2.symm
          have e4 : v_25.snd.fst = true → s_79 = v_25.fst := fun hb => by
            have S := S hb
            rw [e1, ← S.1]
            unfold clampS
            omega
          clear h37 h39
          cases hb : v_25.snd.fst with
          | true =>
            have e4 := e4 hb
            exact k_true hk (by simp; omega)
          | false => exact k_true hk (by simp; omega)
      intro h41 -- n15 < (1 : Int) ∨ (1024 : Int) < n15
      exact by (exfalso; omega) -- k (AV.bool false) [] []
    intro h42 -- n6 < (1 : Int) ∨ (1024 : Int) < n6
    intro n85
    intro q85 -- n85 = (↑l.length : Int)
    intro ⟨l85, u85⟩ -- (-9223372036854775808 : Int) ≤ n85 ∧ n85 ≤ (9223372036854775807 : Int)
    refine ⟨by exact ⟨by assumption, by assumption⟩, ?_⟩ -- (-9223372036854775808 : Int) ≤ n85 ∧ n85 ≤ (9223372036854775807 : Int)
    refine ⟨?_, ?_⟩
    · -- left
      intro h43 -- (1 : Int) ≤ n85
      intro h44 -- n85 ≤ (1024 : Int)
      intro q_90
      intro xs_91
      intro h45 -- (↑q_90 : Int) = n85
      intro h46 -- xs_91 = List.replicate q_90 (0 : Int)
      exact by (exfalso; omega) -- k (AV.bool false) [] []
    intro h47 -- n85 < (1 : Int) ∨ (1024 : Int) < n85
    exact by (exfalso; omega) -- k (AV.bool false) [] []

theorem ringSum_ok : Holds Try.prog 5 lawL := by
  refine fn_sound (env := mkEnv T4) (tab_ok T4_ok) Try.func5 Try.call5 fun args k h => ?_
  match args, h with
  | [.sl 1 l], h => exact ⟨by kernel_rfl, sumLawLoops l, fun _ _ => none, .cast (by kernel_rfl) (ringSum_vc l k h)⟩
end Go.Proofs.Ytcnnbofjgmohaaa

