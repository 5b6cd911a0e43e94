import Derived.Test.YtcnnbofjgmohaaaRgL
namespace Go.Proofs.Ytcnnbofjgmohaaa
open Go Go.Eng Go.Rg Go.Proofs
set_option linter.unusedVariables false
set_option maxHeartbeats 2000000 in
theorem ringPushes_vc (n : Int) (n0 : (-9223372036854775808 : Int) ≤ n) (n1 : n ≤ (9223372036854775807 : Int)) (l : List Int) (p : Int) (p0 : (-9223372036854775808 : Int) ≤ p) (p1 : p ≤ (9223372036854775807 : Int)) (k : AV → List (Option Blk) → List Blk → Prop) (hk : k (AV.bool true) [] []) :
  ∀ (n1 : Int),
  (n1 = (↑l.length : Int)) →
  ((-9223372036854775808 : Int) ≤ n1 ∧ n1 ≤ (9223372036854775807 : Int)) →
  br (decide (n1 > (200 : Int)))
   ((k (AV.bool true) [] []))
   ((
     ((-9223372036854775808 : Int) ≤ n) ∧
     (n ≤ (9223372036854775807 : Int))) ∧
    (
     ((1 : Int) ≤ n) →
     (n ≤ (1024 : Int)) →
     ∀ (q_4 : Nat),
     ∀ (xs_5 : List Int),
     ((↑q_4 : Int) = n) →
     (xs_5 = List.replicate q_4 (0 : Int)) →
     (
      ((-9223372036854775808 : Int) ≤ n) ∧
      (n ≤ (9223372036854775807 : Int))) ∧
     (
      ((1 : Int) ≤ n) →
      (n ≤ (1024 : Int)) →
      (
       ∃ (v : Int × Int × Int × List Int),
       (n = n) ∧
       (l = l) ∧
       (p = p) ∧
       ((0 : Int) = v.fst) ∧
       ((0 : Nat) = (0 : Nat)) ∧
       (q_4 = n.toNat) ∧
       ((0 : Int) = v.snd.fst) ∧
       ((0 : Int) = v.snd.snd.fst) ∧
       (xs_5 = v.snd.snd.snd) ∧
       (n = n) ∧
       (List.take v.fst.toNat l = []) ∧
       (
        ((0 : Int) ≤ v.fst) ∧
        (v.fst ≤ (↑l.length : Int) + (1 : Int))) ∧
       (
        (
         ((1 : Nat) ≤ n.toNat) ∧
         (n.toNat ≤ (1024 : Nat))) ∧
        (v.snd.snd.snd.length = n.toNat) ∧
        (
         ((0 : Int) ≤ v.snd.fst) ∧
         (v.snd.fst < (↑n.toNat : Int))) ∧
        ((0 : Int) ≤ v.snd.snd.fst) ∧
        (v.snd.snd.fst ≤ (↑n.toNat : Int))) ∧
       (RInv n.toNat v.snd.fst v.snd.snd.fst v.snd.snd.snd (List.take v.fst.toNat l))) ∧
      ∀ (v_10 : Int × Int × Int × List Int),
      (((0 : Int) ≤ v_10.fst ∧ v_10.fst ≤ (↑l.length : Int) + (1 : Int)) ∧ (((1 : Nat) ≤ n.toNat ∧ n.toNat ≤ (1024 : Nat)) ∧ v_10.snd.snd.snd.length = n.toNat ∧ ((0 : Int) ≤ v_10.snd.fst ∧ v_10.snd.fst < (↑n.toNat : Int)) ∧ (0 : Int) ≤ v_10.snd.snd.fst ∧ v_10.snd.snd.fst ≤ (↑n.toNat : Int)) ∧ RInv n.toNat v_10.snd.fst v_10.snd.snd.fst v_10.snd.snd.snd (List.take v_10.fst.toNat l)) →
      ∀ (n12 : Int),
      (n12 = (↑l.length : Int)) →
      ((-9223372036854775808 : Int) ≤ n12 ∧ n12 ≤ (9223372036854775807 : Int)) →
      br (decide (v_10.fst ≤ n12))
       ((
         (
          ((1 : Nat) ≤ n.toNat) ∧
          (n.toNat ≤ (1024 : Nat))) ∧
         (v_10.snd.snd.snd.length = n.toNat) ∧
         (
          ((0 : Int) ≤ v_10.snd.fst) ∧
          (v_10.snd.fst < (↑n.toNat : Int))) ∧
         ((0 : Int) ≤ v_10.snd.snd.fst) ∧
         (v_10.snd.snd.fst ≤ (↑n.toNat : Int))) ∧
        (
         ((-9223372036854775808 : Int) ≤ p) ∧
         (p ≤ (9223372036854775807 : Int))) ∧
        ∀ (v_15 : Int),
        ∀ (e_16 : Int),
        (v_15 = atV n.toNat v_10.snd.fst v_10.snd.snd.fst v_10.snd.snd.snd p) →
        (e_16 = atE v_10.snd.snd.fst p) →
        ((-9223372036854775808 : Int) ≤ v_15 ∧ v_15 ≤ (9223372036854775807 : Int)) →
        (e_16 = (0 : Int) ∨ e_16 = (2 : Int)) →
        (
         ((1 : Int) ≤ n) ∧
         (n ≤ (1024 : Int))) ∧
        ((List.take v_10.fst.toNat l).length ≤ (2000 : Nat)) ∧
        (
         ((-9223372036854775808 : Int) ≤ p) ∧
         (p ≤ (9223372036854775807 : Int))) ∧
        ∀ (v_21 : Int),
        ∀ (e_22 : Int),
        (v_21 = if (0 : Int) ≤ p ∧ p < (↑(lastL n.toNat (List.take v_10.fst.toNat l)).length : Int) then (lastL n.toNat (List.take v_10.fst.toNat l)).getD ((lastL n.toNat (List.take v_10.fst.toNat l)).length - (1 : Nat) - p.toNat) (0 : Int) else (0 : Int)) →
        (e_22 = if (0 : Int) ≤ p ∧ p < (↑(lastL n.toNat (List.take v_10.fst.toNat l)).length : Int) then (0 : Int) else (2 : Int)) →
        ((-9223372036854775808 : Int) ≤ v_21 ∧ v_21 ≤ (9223372036854775807 : Int)) →
        (e_22 = (0 : Int) ∨ e_22 = (2 : Int)) →
        (
         (
          ((1 : Nat) ≤ n.toNat) ∧
          (n.toNat ≤ (1024 : Nat))) ∧
         (v_10.snd.snd.snd.length = n.toNat) ∧
         (
          ((0 : Int) ≤ v_10.snd.fst) ∧
          (v_10.snd.fst < (↑n.toNat : Int))) ∧
         ((0 : Int) ≤ v_10.snd.snd.fst) ∧
         (v_10.snd.snd.fst ≤ (↑n.toNat : Int))) ∧
        ∀ (ys_27 : List Int),
        ∀ (q_28 : Nat),
        (ys_27 = allR n.toNat v_10.snd.fst v_10.snd.snd.fst v_10.snd.snd.snd q_28) →
        ((↑q_28 : Int) = v_10.snd.snd.fst) →
        (
         (
          ((1 : Nat) ≤ n.toNat) ∧
          (n.toNat ≤ (1024 : Nat))) ∧
         (v_10.snd.snd.snd.length = n.toNat) ∧
         (
          ((0 : Int) ≤ v_10.snd.fst) ∧
          (v_10.snd.fst < (↑n.toNat : Int))) ∧
         ((0 : Int) ≤ v_10.snd.snd.fst) ∧
         (v_10.snd.snd.fst ≤ (↑n.toNat : Int))) ∧
        ∀ (s_31 : Int),
        (s_31 = clampS (sumR n.toNat v_10.snd.fst v_10.snd.snd.snd v_10.snd.snd.fst.toNat)) →
        ((-4611686018427387904 : Int) ≤ s_31 ∧ s_31 ≤ (4611686018427387904 : Int)) →
        br (bif bif v_15 != v_21 then true else e_16 != e_22 then true else (0 : Int) != (0 : Int))
         ((true = true) ∧
          (true = true) ∧
          (
           ∀ (n34 : Int),
           (n34 = (↑(List.take v_10.fst.toNat l).length : Int)) →
           (true = true) ∧
           (k (AV.bool false) [] [])) ∧
          (
           ∀ (n35 : Int),
           (n35 = (↑(List.take v_10.fst.toNat l).length : Int)) →
           (true = true) ∧
           (k (AV.bool false) [] [])) ∧
          (
           ∀ (n36 : Int),
           (n36 = (↑(List.take v_10.fst.toNat l).length : Int)) →
           (true = true) ∧
           (k (AV.bool false) [] [])) ∧
          ∀ (n37 : Int),
          (n37 = (↑(List.take v_10.fst.toNat l).length : Int)) →
          (
           (true = true) ∧
           (k (AV.bool false) [] [])) ∧
          (true = true) ∧
          (k (AV.bool false) [] []))
         ((
           ((1 : Int) ≤ n) ∧
           (n ≤ (1024 : Int))) ∧
          ((List.take v_10.fst.toNat l).length ≤ (2000 : Nat)) ∧
          ∀ (ys_38 : List Int),
          (ys_38 = lastL n.toNat (List.take v_10.fst.toNat l)) →
          (ys_38.length ≤ (2000 : Nat)) →
          ∀ (r_41 : Bool),
          (r_41 = true ↔ List.take q_28 (List.drop (0 : Nat) ys_27) = ys_38) →
          br (bif bif false then true else !r_41 then true else (0 : Int) != (0 : Int))
           ((true = true) ∧
            (
             ∀ (n43 : Int),
             (n43 = (↑(List.take v_10.fst.toNat l).length : Int)) →
             (true = true) ∧
             (k (AV.bool false) [] [])) ∧
            (
             ∀ (n44 : Int),
             (n44 = (↑(List.take v_10.fst.toNat l).length : Int)) →
             (true = true) ∧
             (k (AV.bool false) [] [])) ∧
            (
             ∀ (n45 : Int),
             (n45 = (↑(List.take v_10.fst.toNat l).length : Int)) →
             (true = true) ∧
             (k (AV.bool false) [] [])) ∧
            ∀ (n46 : Int),
            (n46 = (↑(List.take v_10.fst.toNat l).length : Int)) →
            (
             (true = true) ∧
             (k (AV.bool false) [] [])) ∧
            (true = true) ∧
            (k (AV.bool false) [] []))
           ((
             ((1 : Int) ≤ n) ∧
             (n ≤ (1024 : Int))) ∧
            ((List.take v_10.fst.toNat l).length ≤ (2000 : Nat)) ∧
            ∀ (s_47 : Int),
            (s_47 = clampS (sumL (lastL n.toNat (List.take v_10.fst.toNat l)))) →
            ((-4611686018427387904 : Int) ≤ s_47 ∧ s_47 ≤ (4611686018427387904 : Int)) →
            (
             br (bif false then true else s_31 != s_47)
              (∀ (n50 : Int),
               (n50 = (↑(List.take v_10.fst.toNat l).length : Int)) →
               (true = true) ∧
               (k (AV.bool false) [] []))
              ((
                (
                 ((1 : Nat) ≤ n.toNat) ∧
                 (n.toNat ≤ (1024 : Nat))) ∧
                (v_10.snd.snd.snd.length = n.toNat) ∧
                (
                 ((0 : Int) ≤ v_10.snd.fst) ∧
                 (v_10.snd.fst < (↑n.toNat : Int))) ∧
                ((0 : Int) ≤ v_10.snd.snd.fst) ∧
                (v_10.snd.snd.fst ≤ (↑n.toNat : Int))) ∧
               ∀ (n51 : Int),
               (n51 = (↑(List.take v_10.fst.toNat l).length : Int)) →
               br (bif false then true else !(v_10.snd.snd.fst == (↑n.toNat : Int)) == decide (n51 ≥ n))
                ((k (AV.bool false) [] []))
                ((
                  ∃ (v : Int × Int × Int × List Int × Nat × List Int),
                  (n = n) ∧
                  (l = l) ∧
                  (p = p) ∧
                  (v_10.fst = (↑v_10.fst.toNat : Int)) ∧
                  ((0 : Nat) = (0 : Nat)) ∧
                  (q_28 = v.snd.snd.snd.snd.fst) ∧
                  ((0 : Int) = v.fst) ∧
                  ((0 : Nat) = (0 : Nat)) ∧
                  (n.toNat = n.toNat) ∧
                  (v_10.snd.fst = v.snd.fst) ∧
                  (v_10.snd.snd.fst = v.snd.snd.fst) ∧
                  (v_10.snd.snd.snd = v.snd.snd.snd.fst) ∧
                  (n = n) ∧
                  (List.take v_10.fst.toNat l = List.take v_10.fst.toNat l) ∧
                  (ys_27 = v.snd.snd.snd.snd.snd) ∧
                  (
                   ((0 : Int) ≤ v.fst) ∧
                   (v.fst ≤ (↑v.snd.snd.snd.snd.fst : Int))) ∧
                  (
                   (
                    ((1 : Nat) ≤ n.toNat) ∧
                    (n.toNat ≤ (1024 : Nat))) ∧
                   (v.snd.snd.snd.fst.length = n.toNat) ∧
                   (
                    ((0 : Int) ≤ v.snd.fst) ∧
                    (v.snd.fst < (↑n.toNat : Int))) ∧
                   ((0 : Int) ≤ v.snd.snd.fst) ∧
                   (v.snd.snd.fst ≤ (↑n.toNat : Int))) ∧
                  (RInv n.toNat v.snd.fst v.snd.snd.fst v.snd.snd.snd.fst (List.take v_10.fst.toNat l)) ∧
                  (v.snd.snd.snd.snd.snd.length = v.snd.snd.snd.snd.fst)) ∧
                 ∀ (v_53 : Int × Int × Int × List Int × Nat × List Int),
                 (((0 : Int) ≤ v_53.fst ∧ v_53.fst ≤ (↑v_53.snd.snd.snd.snd.fst : Int)) ∧ (((1 : Nat) ≤ n.toNat ∧ n.toNat ≤ (1024 : Nat)) ∧ v_53.snd.snd.snd.fst.length = n.toNat ∧ ((0 : Int) ≤ v_53.snd.fst ∧ v_53.snd.fst < (↑n.toNat : Int)) ∧ (0 : Int) ≤ v_53.snd.snd.fst ∧ v_53.snd.snd.fst ≤ (↑n.toNat : Int)) ∧ RInv n.toNat v_53.snd.fst v_53.snd.snd.fst v_53.snd.snd.snd.fst (List.take v_10.fst.toNat l) ∧ v_53.snd.snd.snd.snd.snd.length = v_53.snd.snd.snd.snd.fst) →
                 ∀ (n55 : Int),
                 (n55 = (↑v_53.snd.snd.snd.snd.fst : Int)) →
                 ((-9223372036854775808 : Int) ≤ n55 ∧ n55 ≤ (9223372036854775807 : Int)) →
                 br (decide (v_53.fst < n55))
                  (((0 : Int) ≤ v_53.fst) ∧
                   (v_53.fst < (↑v_53.snd.snd.snd.snd.fst : Int)) ∧
                   ((0 : Nat) + v_53.fst.toNat < v_53.snd.snd.snd.snd.snd.length) ∧
                   ∀ (z58 : List Int),
                   (z58 = v_53.snd.snd.snd.snd.snd.set ((0 : Nat) + v_53.fst.toNat) (77 : Int)) →
                   ∀ (n60 : Int),
                   (n60 = IntKind.i64.wrap (v_53.fst + (1 : Int))) →
                   ((-9223372036854775808 : Int) ≤ n60 ∧ n60 ≤ (9223372036854775807 : Int)) →
                   ∃ (v' : Int × Int × Int × List Int × Nat × List Int),
                   (n = n) ∧
                   (l = l) ∧
                   (p = p) ∧
                   ((↑v_10.fst.toNat : Int) = (↑v_10.fst.toNat : Int)) ∧
                   ((0 : Nat) = (0 : Nat)) ∧
                   (v_53.snd.snd.snd.snd.fst = v'.snd.snd.snd.snd.fst) ∧
                   (n60 = v'.fst) ∧
                   ((0 : Nat) = (0 : Nat)) ∧
                   (n.toNat = n.toNat) ∧
                   (v_53.snd.fst = v'.snd.fst) ∧
                   (v_53.snd.snd.fst = v'.snd.snd.fst) ∧
                   (v_53.snd.snd.snd.fst = v'.snd.snd.snd.fst) ∧
                   (n = n) ∧
                   (List.take v_10.fst.toNat l = List.take v_10.fst.toNat l) ∧
                   (z58 = v'.snd.snd.snd.snd.snd) ∧
                   (
                    (
                     ((0 : Int) ≤ v'.fst) ∧
                     (v'.fst ≤ (↑v'.snd.snd.snd.snd.fst : Int))) ∧
                    (
                     (
                      ((1 : Nat) ≤ n.toNat) ∧
                      (n.toNat ≤ (1024 : Nat))) ∧
                     (v'.snd.snd.snd.fst.length = n.toNat) ∧
                     (
                      ((0 : Int) ≤ v'.snd.fst) ∧
                      (v'.snd.fst < (↑n.toNat : Int))) ∧
                     ((0 : Int) ≤ v'.snd.snd.fst) ∧
                     (v'.snd.snd.fst ≤ (↑n.toNat : Int))) ∧
                    (RInv n.toNat v'.snd.fst v'.snd.snd.fst v'.snd.snd.snd.fst (List.take v_10.fst.toNat l)) ∧
                    (v'.snd.snd.snd.snd.snd.length = v'.snd.snd.snd.snd.fst)) ∧
                   (((↑v'.snd.snd.snd.snd.fst : Int) - v'.fst).toNat < ((↑v_53.snd.snd.snd.snd.fst : Int) - v_53.fst).toNat))
                  (∀ (n63 : Int),
                   (n63 = (↑l.length : Int)) →
                   ((-9223372036854775808 : Int) ≤ n63 ∧ n63 ≤ (9223372036854775807 : Int)) →
                   br (decide ((↑v_10.fst.toNat : Int) < n63))
                    (((0 : Int) ≤ (↑v_10.fst.toNat : Int)) ∧
                     ((↑v_10.fst.toNat : Int) < (↑l.length : Int)) ∧
                     ∀ (n66 : Int),
                     (n66 = l.getD (↑v_10.fst.toNat : Int).toNat (0 : Int)) →
                     ((-9223372036854775808 : Int) ≤ n66 ∧ n66 ≤ (9223372036854775807 : Int)) →
                     (
                      (
                       ((1 : Nat) ≤ n.toNat) ∧
                       (n.toNat ≤ (1024 : Nat))) ∧
                      (v_53.snd.snd.snd.fst.length = n.toNat) ∧
                      (
                       ((0 : Int) ≤ v_53.snd.fst) ∧
                       (v_53.snd.fst < (↑n.toNat : Int))) ∧
                      ((0 : Int) ≤ v_53.snd.snd.fst) ∧
                      (v_53.snd.snd.fst ≤ (↑n.toNat : Int))) ∧
                     (
                      ((-9223372036854775808 : Int) ≤ n66) ∧
                      (n66 ≤ (9223372036854775807 : Int))) ∧
                     ∀ (a1_69 : Int),
                     ∀ (m1_70 : Int),
                     ∀ (ys_71 : List Int),
                     (a1_69 = (v_53.snd.fst + (1 : Int)) % (↑n.toNat : Int)) →
                     (m1_70 = min (v_53.snd.snd.fst + (1 : Int)) (↑n.toNat : Int)) →
                     (ys_71 = v_53.snd.snd.snd.fst.set v_53.snd.fst.toNat n66) →
                     (((1 : Nat) ≤ n.toNat ∧ n.toNat ≤ (1024 : Nat)) ∧ ys_71.length = n.toNat ∧ ((0 : Int) ≤ a1_69 ∧ a1_69 < (↑n.toNat : Int)) ∧ (0 : Int) ≤ m1_70 ∧ m1_70 ≤ (↑n.toNat : Int)) →
                     ((0 : Int) ≤ (↑v_10.fst.toNat : Int)) ∧
                     ((↑v_10.fst.toNat : Int) < (↑l.length : Int)) ∧
                     ∀ (n76 : Int),
                     (n76 = l.getD (↑v_10.fst.toNat : Int).toNat (0 : Int)) →
                     ((-9223372036854775808 : Int) ≤ n76 ∧ n76 ≤ (9223372036854775807 : Int)) →
                     (
                      ((-9223372036854775808 : Int) ≤ n) ∧
                      (n ≤ (9223372036854775807 : Int))) ∧
                     ((List.take v_10.fst.toNat l).length ≤ (2000 : Nat)) ∧
                     (
                      ((-9223372036854775808 : Int) ≤ n76) ∧
                      (n76 ≤ (9223372036854775807 : Int))) ∧
                     ∀ (n79 : Int),
                     (n79 = IntKind.i64.wrap ((↑v_10.fst.toNat : Int) + (1 : Int))) →
                     ((-9223372036854775808 : Int) ≤ n79 ∧ n79 ≤ (9223372036854775807 : Int)) →
                     ∃ (v' : Int × Int × Int × List Int),
                     (n = n) ∧
                     (l = l) ∧
                     (p = p) ∧
                     (n79 = v'.fst) ∧
                     ((0 : Nat) = (0 : Nat)) ∧
                     (n.toNat = n.toNat) ∧
                     (a1_69 = v'.snd.fst) ∧
                     (m1_70 = v'.snd.snd.fst) ∧
                     (ys_71 = v'.snd.snd.snd) ∧
                     (n = n) ∧
                     (List.take v_10.fst.toNat l ++ [n76] = List.take v'.fst.toNat l) ∧
                     (
                      (
                       ((0 : Int) ≤ v'.fst) ∧
                       (v'.fst ≤ (↑l.length : Int) + (1 : Int))) ∧
                      (
                       (
                        ((1 : Nat) ≤ n.toNat) ∧
                        (n.toNat ≤ (1024 : Nat))) ∧
                       (v'.snd.snd.snd.length = n.toNat) ∧
                       (
                        ((0 : Int) ≤ v'.snd.fst) ∧
                        (v'.snd.fst < (↑n.toNat : Int))) ∧
                       ((0 : Int) ≤ v'.snd.snd.fst) ∧
                       (v'.snd.snd.fst ≤ (↑n.toNat : Int))) ∧
                      (RInv n.toNat v'.snd.fst v'.snd.snd.fst v'.snd.snd.snd (List.take v'.fst.toNat l))) ∧
                     (((↑l.length : Int) + (1 : Int) - v'.fst).toNat < ((↑l.length : Int) + (1 : Int) - v_10.fst).toNat))
                    (∀ (n82 : Int),
                     (n82 = IntKind.i64.wrap ((↑v_10.fst.toNat : Int) + (1 : Int))) →
                     ((-9223372036854775808 : Int) ≤ n82 ∧ n82 ≤ (9223372036854775807 : Int)) →
                     ∃ (v' : Int × Int × Int × List Int),
                     (n = n) ∧
                     (l = l) ∧
                     (p = p) ∧
                     (n82 = v'.fst) ∧
                     ((0 : Nat) = (0 : Nat)) ∧
                     (n.toNat = n.toNat) ∧
                     (v_53.snd.fst = v'.snd.fst) ∧
                     (v_53.snd.snd.fst = v'.snd.snd.fst) ∧
                     (v_53.snd.snd.snd.fst = v'.snd.snd.snd) ∧
                     (n = n) ∧
                     (List.take v_10.fst.toNat l = List.take v'.fst.toNat l) ∧
                     (
                      (
                       ((0 : Int) ≤ v'.fst) ∧
                       (v'.fst ≤ (↑l.length : Int) + (1 : Int))) ∧
                      (
                       (
                        ((1 : Nat) ≤ n.toNat) ∧
                        (n.toNat ≤ (1024 : Nat))) ∧
                       (v'.snd.snd.snd.length = n.toNat) ∧
                       (
                        ((0 : Int) ≤ v'.snd.fst) ∧
                        (v'.snd.fst < (↑n.toNat : Int))) ∧
                       ((0 : Int) ≤ v'.snd.snd.fst) ∧
                       (v'.snd.snd.fst ≤ (↑n.toNat : Int))) ∧
                      (RInv n.toNat v'.snd.fst v'.snd.snd.fst v'.snd.snd.snd (List.take v'.fst.toNat l))) ∧
                     (((↑l.length : Int) + (1 : Int) - v'.fst).toNat < ((↑l.length : Int) + (1 : Int) - v_10.fst).toNat)))))) ∧
            (
             br (bif false then true else s_31 != s_47)
              (∀ (n85 : Int),
               (n85 = (↑(List.take v_10.fst.toNat l).length : Int)) →
               (true = true) ∧
               (k (AV.bool false) [] []))
              ((
                (
                 ((1 : Nat) ≤ n.toNat) ∧
                 (n.toNat ≤ (1024 : Nat))) ∧
                (v_10.snd.snd.snd.length = n.toNat) ∧
                (
                 ((0 : Int) ≤ v_10.snd.fst) ∧
                 (v_10.snd.fst < (↑n.toNat : Int))) ∧
                ((0 : Int) ≤ v_10.snd.snd.fst) ∧
                (v_10.snd.snd.fst ≤ (↑n.toNat : Int))) ∧
               ∀ (n86 : Int),
               (n86 = (↑(List.take v_10.fst.toNat l).length : Int)) →
               br (bif false then true else !(v_10.snd.snd.fst == (↑n.toNat : Int)) == decide (n86 ≥ n))
                ((k (AV.bool false) [] []))
                ((
                  ∃ (v : Int × Int × Int × List Int × Nat × List Int),
                  (n = n) ∧
                  (l = l) ∧
                  (p = p) ∧
                  (v_10.fst = (↑v_10.fst.toNat : Int)) ∧
                  ((0 : Nat) = (0 : Nat)) ∧
                  (q_28 = v.snd.snd.snd.snd.fst) ∧
                  ((0 : Int) = v.fst) ∧
                  ((0 : Nat) = (0 : Nat)) ∧
                  (n.toNat = n.toNat) ∧
                  (v_10.snd.fst = v.snd.fst) ∧
                  (v_10.snd.snd.fst = v.snd.snd.fst) ∧
                  (v_10.snd.snd.snd = v.snd.snd.snd.fst) ∧
                  (n = n) ∧
                  (List.take v_10.fst.toNat l = List.take v_10.fst.toNat l) ∧
                  (ys_27 = v.snd.snd.snd.snd.snd) ∧
                  (
                   ((0 : Int) ≤ v.fst) ∧
                   (v.fst ≤ (↑v.snd.snd.snd.snd.fst : Int))) ∧
                  (
                   (
                    ((1 : Nat) ≤ n.toNat) ∧
                    (n.toNat ≤ (1024 : Nat))) ∧
                   (v.snd.snd.snd.fst.length = n.toNat) ∧
                   (
                    ((0 : Int) ≤ v.snd.fst) ∧
                    (v.snd.fst < (↑n.toNat : Int))) ∧
                   ((0 : Int) ≤ v.snd.snd.fst) ∧
                   (v.snd.snd.fst ≤ (↑n.toNat : Int))) ∧
                  (RInv n.toNat v.snd.fst v.snd.snd.fst v.snd.snd.snd.fst (List.take v_10.fst.toNat l)) ∧
                  (v.snd.snd.snd.snd.snd.length = v.snd.snd.snd.snd.fst)) ∧
                 ∀ (v_88 : Int × Int × Int × List Int × Nat × List Int),
                 (((0 : Int) ≤ v_88.fst ∧ v_88.fst ≤ (↑v_88.snd.snd.snd.snd.fst : Int)) ∧ (((1 : Nat) ≤ n.toNat ∧ n.toNat ≤ (1024 : Nat)) ∧ v_88.snd.snd.snd.fst.length = n.toNat ∧ ((0 : Int) ≤ v_88.snd.fst ∧ v_88.snd.fst < (↑n.toNat : Int)) ∧ (0 : Int) ≤ v_88.snd.snd.fst ∧ v_88.snd.snd.fst ≤ (↑n.toNat : Int)) ∧ RInv n.toNat v_88.snd.fst v_88.snd.snd.fst v_88.snd.snd.snd.fst (List.take v_10.fst.toNat l) ∧ v_88.snd.snd.snd.snd.snd.length = v_88.snd.snd.snd.snd.fst) →
                 ∀ (n90 : Int),
                 (n90 = (↑v_88.snd.snd.snd.snd.fst : Int)) →
                 ((-9223372036854775808 : Int) ≤ n90 ∧ n90 ≤ (9223372036854775807 : Int)) →
                 br (decide (v_88.fst < n90))
                  (((0 : Int) ≤ v_88.fst) ∧
                   (v_88.fst < (↑v_88.snd.snd.snd.snd.fst : Int)) ∧
                   ((0 : Nat) + v_88.fst.toNat < v_88.snd.snd.snd.snd.snd.length) ∧
                   ∀ (z93 : List Int),
                   (z93 = v_88.snd.snd.snd.snd.snd.set ((0 : Nat) + v_88.fst.toNat) (77 : Int)) →
                   ∀ (n95 : Int),
                   (n95 = IntKind.i64.wrap (v_88.fst + (1 : Int))) →
                   ((-9223372036854775808 : Int) ≤ n95 ∧ n95 ≤ (9223372036854775807 : Int)) →
                   ∃ (v' : Int × Int × Int × List Int × Nat × List Int),
                   (n = n) ∧
                   (l = l) ∧
                   (p = p) ∧
                   ((↑v_10.fst.toNat : Int) = (↑v_10.fst.toNat : Int)) ∧
                   ((0 : Nat) = (0 : Nat)) ∧
                   (v_88.snd.snd.snd.snd.fst = v'.snd.snd.snd.snd.fst) ∧
                   (n95 = v'.fst) ∧
                   ((0 : Nat) = (0 : Nat)) ∧
                   (n.toNat = n.toNat) ∧
                   (v_88.snd.fst = v'.snd.fst) ∧
                   (v_88.snd.snd.fst = v'.snd.snd.fst) ∧
                   (v_88.snd.snd.snd.fst = v'.snd.snd.snd.fst) ∧
                   (n = n) ∧
                   (List.take v_10.fst.toNat l = List.take v_10.fst.toNat l) ∧
                   (z93 = v'.snd.snd.snd.snd.snd) ∧
                   (
                    (
                     ((0 : Int) ≤ v'.fst) ∧
                     (v'.fst ≤ (↑v'.snd.snd.snd.snd.fst : Int))) ∧
                    (
                     (
                      ((1 : Nat) ≤ n.toNat) ∧
                      (n.toNat ≤ (1024 : Nat))) ∧
                     (v'.snd.snd.snd.fst.length = n.toNat) ∧
                     (
                      ((0 : Int) ≤ v'.snd.fst) ∧
                      (v'.snd.fst < (↑n.toNat : Int))) ∧
                     ((0 : Int) ≤ v'.snd.snd.fst) ∧
                     (v'.snd.snd.fst ≤ (↑n.toNat : Int))) ∧
                    (RInv n.toNat v'.snd.fst v'.snd.snd.fst v'.snd.snd.snd.fst (List.take v_10.fst.toNat l)) ∧
                    (v'.snd.snd.snd.snd.snd.length = v'.snd.snd.snd.snd.fst)) ∧
                   (((↑v'.snd.snd.snd.snd.fst : Int) - v'.fst).toNat < ((↑v_88.snd.snd.snd.snd.fst : Int) - v_88.fst).toNat))
                  (∀ (n98 : Int),
                   (n98 = (↑l.length : Int)) →
                   ((-9223372036854775808 : Int) ≤ n98 ∧ n98 ≤ (9223372036854775807 : Int)) →
                   br (decide ((↑v_10.fst.toNat : Int) < n98))
                    (((0 : Int) ≤ (↑v_10.fst.toNat : Int)) ∧
                     ((↑v_10.fst.toNat : Int) < (↑l.length : Int)) ∧
                     ∀ (n101 : Int),
                     (n101 = l.getD (↑v_10.fst.toNat : Int).toNat (0 : Int)) →
                     ((-9223372036854775808 : Int) ≤ n101 ∧ n101 ≤ (9223372036854775807 : Int)) →
                     (
                      (
                       ((1 : Nat) ≤ n.toNat) ∧
                       (n.toNat ≤ (1024 : Nat))) ∧
                      (v_88.snd.snd.snd.fst.length = n.toNat) ∧
                      (
                       ((0 : Int) ≤ v_88.snd.fst) ∧
                       (v_88.snd.fst < (↑n.toNat : Int))) ∧
                      ((0 : Int) ≤ v_88.snd.snd.fst) ∧
                      (v_88.snd.snd.fst ≤ (↑n.toNat : Int))) ∧
                     (
                      ((-9223372036854775808 : Int) ≤ n101) ∧
                      (n101 ≤ (9223372036854775807 : Int))) ∧
                     ∀ (a1_104 : Int),
                     ∀ (m1_105 : Int),
                     ∀ (ys_106 : List Int),
                     (a1_104 = (v_88.snd.fst + (1 : Int)) % (↑n.toNat : Int)) →
                     (m1_105 = min (v_88.snd.snd.fst + (1 : Int)) (↑n.toNat : Int)) →
                     (ys_106 = v_88.snd.snd.snd.fst.set v_88.snd.fst.toNat n101) →
                     (((1 : Nat) ≤ n.toNat ∧ n.toNat ≤ (1024 : Nat)) ∧ ys_106.length = n.toNat ∧ ((0 : Int) ≤ a1_104 ∧ a1_104 < (↑n.toNat : Int)) ∧ (0 : Int) ≤ m1_105 ∧ m1_105 ≤ (↑n.toNat : Int)) →
                     ((0 : Int) ≤ (↑v_10.fst.toNat : Int)) ∧
                     ((↑v_10.fst.toNat : Int) < (↑l.length : Int)) ∧
                     ∀ (n111 : Int),
                     (n111 = l.getD (↑v_10.fst.toNat : Int).toNat (0 : Int)) →
                     ((-9223372036854775808 : Int) ≤ n111 ∧ n111 ≤ (9223372036854775807 : Int)) →
                     (
                      ((-9223372036854775808 : Int) ≤ n) ∧
                      (n ≤ (9223372036854775807 : Int))) ∧
                     ((List.take v_10.fst.toNat l).length ≤ (2000 : Nat)) ∧
                     (
                      ((-9223372036854775808 : Int) ≤ n111) ∧
                      (n111 ≤ (9223372036854775807 : Int))) ∧
                     ∀ (n114 : Int),
                     (n114 = IntKind.i64.wrap ((↑v_10.fst.toNat : Int) + (1 : Int))) →
                     ((-9223372036854775808 : Int) ≤ n114 ∧ n114 ≤ (9223372036854775807 : Int)) →
                     ∃ (v' : Int × Int × Int × List Int),
                     (n = n) ∧
                     (l = l) ∧
                     (p = p) ∧
                     (n114 = v'.fst) ∧
                     ((0 : Nat) = (0 : Nat)) ∧
                     (n.toNat = n.toNat) ∧
                     (a1_104 = v'.snd.fst) ∧
                     (m1_105 = v'.snd.snd.fst) ∧
                     (ys_106 = v'.snd.snd.snd) ∧
                     (n = n) ∧
                     (List.take v_10.fst.toNat l ++ [n111] = List.take v'.fst.toNat l) ∧
                     (
                      (
                       ((0 : Int) ≤ v'.fst) ∧
                       (v'.fst ≤ (↑l.length : Int) + (1 : Int))) ∧
                      (
                       (
                        ((1 : Nat) ≤ n.toNat) ∧
                        (n.toNat ≤ (1024 : Nat))) ∧
                       (v'.snd.snd.snd.length = n.toNat) ∧
                       (
                        ((0 : Int) ≤ v'.snd.fst) ∧
                        (v'.snd.fst < (↑n.toNat : Int))) ∧
                       ((0 : Int) ≤ v'.snd.snd.fst) ∧
                       (v'.snd.snd.fst ≤ (↑n.toNat : Int))) ∧
                      (RInv n.toNat v'.snd.fst v'.snd.snd.fst v'.snd.snd.snd (List.take v'.fst.toNat l))) ∧
                     (((↑l.length : Int) + (1 : Int) - v'.fst).toNat < ((↑l.length : Int) + (1 : Int) - v_10.fst).toNat))
                    (∀ (n117 : Int),
                     (n117 = IntKind.i64.wrap ((↑v_10.fst.toNat : Int) + (1 : Int))) →
                     ((-9223372036854775808 : Int) ≤ n117 ∧ n117 ≤ (9223372036854775807 : Int)) →
                     ∃ (v' : Int × Int × Int × List Int),
                     (n = n) ∧
                     (l = l) ∧
                     (p = p) ∧
                     (n117 = v'.fst) ∧
                     ((0 : Nat) = (0 : Nat)) ∧
                     (n.toNat = n.toNat) ∧
                     (v_88.snd.fst = v'.snd.fst) ∧
                     (v_88.snd.snd.fst = v'.snd.snd.fst) ∧
                     (v_88.snd.snd.snd.fst = v'.snd.snd.snd) ∧
                     (n = n) ∧
                     (List.take v_10.fst.toNat l = List.take v'.fst.toNat l) ∧
                     (
                      (
                       ((0 : Int) ≤ v'.fst) ∧
                       (v'.fst ≤ (↑l.length : Int) + (1 : Int))) ∧
                      (
                       (
                        ((1 : Nat) ≤ n.toNat) ∧
                        (n.toNat ≤ (1024 : Nat))) ∧
                       (v'.snd.snd.snd.length = n.toNat) ∧
                       (
                        ((0 : Int) ≤ v'.snd.fst) ∧
                        (v'.snd.fst < (↑n.toNat : Int))) ∧
                       ((0 : Int) ≤ v'.snd.snd.fst) ∧
                       (v'.snd.snd.fst ≤ (↑n.toNat : Int))) ∧
                      (RInv n.toNat v'.snd.fst v'.snd.snd.fst v'.snd.snd.snd (List.take v'.fst.toNat l))) ∧
                     (((↑l.length : Int) + (1 : Int) - v'.fst).toNat < ((↑l.length : Int) + (1 : Int) - v_10.fst).toNat)))))) ∧
            (
             br (bif false then true else s_31 != s_47)
              (∀ (n120 : Int),
               (n120 = (↑(List.take v_10.fst.toNat l).length : Int)) →
               (true = true) ∧
               (k (AV.bool false) [] []))
              ((
                (
                 ((1 : Nat) ≤ n.toNat) ∧
                 (n.toNat ≤ (1024 : Nat))) ∧
                (v_10.snd.snd.snd.length = n.toNat) ∧
                (
                 ((0 : Int) ≤ v_10.snd.fst) ∧
                 (v_10.snd.fst < (↑n.toNat : Int))) ∧
                ((0 : Int) ≤ v_10.snd.snd.fst) ∧
                (v_10.snd.snd.fst ≤ (↑n.toNat : Int))) ∧
               ∀ (n121 : Int),
               (n121 = (↑(List.take v_10.fst.toNat l).length : Int)) →
               br (bif false then true else !(v_10.snd.snd.fst == (↑n.toNat : Int)) == decide (n121 ≥ n))
                ((k (AV.bool false) [] []))
                ((
                  ∃ (v : Int × Int × Int × List Int × Nat × List Int),
                  (n = n) ∧
                  (l = l) ∧
                  (p = p) ∧
                  (v_10.fst = (↑v_10.fst.toNat : Int)) ∧
                  ((0 : Nat) = (0 : Nat)) ∧
                  (q_28 = v.snd.snd.snd.snd.fst) ∧
                  ((0 : Int) = v.fst) ∧
                  ((0 : Nat) = (0 : Nat)) ∧
                  (n.toNat = n.toNat) ∧
                  (v_10.snd.fst = v.snd.fst) ∧
                  (v_10.snd.snd.fst = v.snd.snd.fst) ∧
                  (v_10.snd.snd.snd = v.snd.snd.snd.fst) ∧
                  (n = n) ∧
                  (List.take v_10.fst.toNat l = List.take v_10.fst.toNat l) ∧
                  (ys_27 = v.snd.snd.snd.snd.snd) ∧
                  (
                   ((0 : Int) ≤ v.fst) ∧
                   (v.fst ≤ (↑v.snd.snd.snd.snd.fst : Int))) ∧
                  (
                   (
                    ((1 : Nat) ≤ n.toNat) ∧
                    (n.toNat ≤ (1024 : Nat))) ∧
                   (v.snd.snd.snd.fst.length = n.toNat) ∧
                   (
                    ((0 : Int) ≤ v.snd.fst) ∧
                    (v.snd.fst < (↑n.toNat : Int))) ∧
                   ((0 : Int) ≤ v.snd.snd.fst) ∧
                   (v.snd.snd.fst ≤ (↑n.toNat : Int))) ∧
                  (RInv n.toNat v.snd.fst v.snd.snd.fst v.snd.snd.snd.fst (List.take v_10.fst.toNat l)) ∧
                  (v.snd.snd.snd.snd.snd.length = v.snd.snd.snd.snd.fst)) ∧
                 ∀ (v_123 : Int × Int × Int × List Int × Nat × List Int),
                 (((0 : Int) ≤ v_123.fst ∧ v_123.fst ≤ (↑v_123.snd.snd.snd.snd.fst : Int)) ∧ (((1 : Nat) ≤ n.toNat ∧ n.toNat ≤ (1024 : Nat)) ∧ v_123.snd.snd.snd.fst.length = n.toNat ∧ ((0 : Int) ≤ v_123.snd.fst ∧ v_123.snd.fst < (↑n.toNat : Int)) ∧ (0 : Int) ≤ v_123.snd.snd.fst ∧ v_123.snd.snd.fst ≤ (↑n.toNat : Int)) ∧ RInv n.toNat v_123.snd.fst v_123.snd.snd.fst v_123.snd.snd.snd.fst (List.take v_10.fst.toNat l) ∧ v_123.snd.snd.snd.snd.snd.length = v_123.snd.snd.snd.snd.fst) →
                 ∀ (n125 : Int),
                 (n125 = (↑v_123.snd.snd.snd.snd.fst : Int)) →
                 ((-9223372036854775808 : Int) ≤ n125 ∧ n125 ≤ (9223372036854775807 : Int)) →
                 br (decide (v_123.fst < n125))
                  (((0 : Int) ≤ v_123.fst) ∧
                   (v_123.fst < (↑v_123.snd.snd.snd.snd.fst : Int)) ∧
                   ((0 : Nat) + v_123.fst.toNat < v_123.snd.snd.snd.snd.snd.length) ∧
                   ∀ (z128 : List Int),
                   (z128 = v_123.snd.snd.snd.snd.snd.set ((0 : Nat) + v_123.fst.toNat) (77 : Int)) →
                   ∀ (n130 : Int),
                   (n130 = IntKind.i64.wrap (v_123.fst + (1 : Int))) →
                   ((-9223372036854775808 : Int) ≤ n130 ∧ n130 ≤ (9223372036854775807 : Int)) →
                   ∃ (v' : Int × Int × Int × List Int × Nat × List Int),
                   (n = n) ∧
                   (l = l) ∧
                   (p = p) ∧
                   ((↑v_10.fst.toNat : Int) = (↑v_10.fst.toNat : Int)) ∧
                   ((0 : Nat) = (0 : Nat)) ∧
                   (v_123.snd.snd.snd.snd.fst = v'.snd.snd.snd.snd.fst) ∧
                   (n130 = v'.fst) ∧
                   ((0 : Nat) = (0 : Nat)) ∧
                   (n.toNat = n.toNat) ∧
                   (v_123.snd.fst = v'.snd.fst) ∧
                   (v_123.snd.snd.fst = v'.snd.snd.fst) ∧
                   (v_123.snd.snd.snd.fst = v'.snd.snd.snd.fst) ∧
                   (n = n) ∧
                   (List.take v_10.fst.toNat l = List.take v_10.fst.toNat l) ∧
                   (z128 = v'.snd.snd.snd.snd.snd) ∧
                   (
                    (
                     ((0 : Int) ≤ v'.fst) ∧
                     (v'.fst ≤ (↑v'.snd.snd.snd.snd.fst : Int))) ∧
                    (
                     (
                      ((1 : Nat) ≤ n.toNat) ∧
                      (n.toNat ≤ (1024 : Nat))) ∧
                     (v'.snd.snd.snd.fst.length = n.toNat) ∧
                     (
                      ((0 : Int) ≤ v'.snd.fst) ∧
                      (v'.snd.fst < (↑n.toNat : Int))) ∧
                     ((0 : Int) ≤ v'.snd.snd.fst) ∧
                     (v'.snd.snd.fst ≤ (↑n.toNat : Int))) ∧
                    (RInv n.toNat v'.snd.fst v'.snd.snd.fst v'.snd.snd.snd.fst (List.take v_10.fst.toNat l)) ∧
                    (v'.snd.snd.snd.snd.snd.length = v'.snd.snd.snd.snd.fst)) ∧
                   (((↑v'.snd.snd.snd.snd.fst : Int) - v'.fst).toNat < ((↑v_123.snd.snd.snd.snd.fst : Int) - v_123.fst).toNat))
                  (∀ (n133 : Int),
                   (n133 = (↑l.length : Int)) →
                   ((-9223372036854775808 : Int) ≤ n133 ∧ n133 ≤ (9223372036854775807 : Int)) →
                   br (decide ((↑v_10.fst.toNat : Int) < n133))
                    (((0 : Int) ≤ (↑v_10.fst.toNat : Int)) ∧
                     ((↑v_10.fst.toNat : Int) < (↑l.length : Int)) ∧
                     ∀ (n136 : Int),
                     (n136 = l.getD (↑v_10.fst.toNat : Int).toNat (0 : Int)) →
                     ((-9223372036854775808 : Int) ≤ n136 ∧ n136 ≤ (9223372036854775807 : Int)) →
                     (
                      (
                       ((1 : Nat) ≤ n.toNat) ∧
                       (n.toNat ≤ (1024 : Nat))) ∧
                      (v_123.snd.snd.snd.fst.length = n.toNat) ∧
                      (
                       ((0 : Int) ≤ v_123.snd.fst) ∧
                       (v_123.snd.fst < (↑n.toNat : Int))) ∧
                      ((0 : Int) ≤ v_123.snd.snd.fst) ∧
                      (v_123.snd.snd.fst ≤ (↑n.toNat : Int))) ∧
                     (
                      ((-9223372036854775808 : Int) ≤ n136) ∧
                      (n136 ≤ (9223372036854775807 : Int))) ∧
                     ∀ (a1_139 : Int),
                     ∀ (m1_140 : Int),
                     ∀ (ys_141 : List Int),
                     (a1_139 = (v_123.snd.fst + (1 : Int)) % (↑n.toNat : Int)) →
                     (m1_140 = min (v_123.snd.snd.fst + (1 : Int)) (↑n.toNat : Int)) →
                     (ys_141 = v_123.snd.snd.snd.fst.set v_123.snd.fst.toNat n136) →
                     (((1 : Nat) ≤ n.toNat ∧ n.toNat ≤ (1024 : Nat)) ∧ ys_141.length = n.toNat ∧ ((0 : Int) ≤ a1_139 ∧ a1_139 < (↑n.toNat : Int)) ∧ (0 : Int) ≤ m1_140 ∧ m1_140 ≤ (↑n.toNat : Int)) →
                     ((0 : Int) ≤ (↑v_10.fst.toNat : Int)) ∧
                     ((↑v_10.fst.toNat : Int) < (↑l.length : Int)) ∧
                     ∀ (n146 : Int),
                     (n146 = l.getD (↑v_10.fst.toNat : Int).toNat (0 : Int)) →
                     ((-9223372036854775808 : Int) ≤ n146 ∧ n146 ≤ (9223372036854775807 : Int)) →
                     (
                      ((-9223372036854775808 : Int) ≤ n) ∧
                      (n ≤ (9223372036854775807 : Int))) ∧
                     ((List.take v_10.fst.toNat l).length ≤ (2000 : Nat)) ∧
                     (
                      ((-9223372036854775808 : Int) ≤ n146) ∧
                      (n146 ≤ (9223372036854775807 : Int))) ∧
                     ∀ (n149 : Int),
                     (n149 = IntKind.i64.wrap ((↑v_10.fst.toNat : Int) + (1 : Int))) →
                     ((-9223372036854775808 : Int) ≤ n149 ∧ n149 ≤ (9223372036854775807 : Int)) →
                     ∃ (v' : Int × Int × Int × List Int),
                     (n = n) ∧
                     (l = l) ∧
                     (p = p) ∧
                     (n149 = v'.fst) ∧
                     ((0 : Nat) = (0 : Nat)) ∧
                     (n.toNat = n.toNat) ∧
                     (a1_139 = v'.snd.fst) ∧
                     (m1_140 = v'.snd.snd.fst) ∧
                     (ys_141 = v'.snd.snd.snd) ∧
                     (n = n) ∧
                     (List.take v_10.fst.toNat l ++ [n146] = List.take v'.fst.toNat l) ∧
                     (
                      (
                       ((0 : Int) ≤ v'.fst) ∧
                       (v'.fst ≤ (↑l.length : Int) + (1 : Int))) ∧
                      (
                       (
                        ((1 : Nat) ≤ n.toNat) ∧
                        (n.toNat ≤ (1024 : Nat))) ∧
                       (v'.snd.snd.snd.length = n.toNat) ∧
                       (
                        ((0 : Int) ≤ v'.snd.fst) ∧
                        (v'.snd.fst < (↑n.toNat : Int))) ∧
                       ((0 : Int) ≤ v'.snd.snd.fst) ∧
                       (v'.snd.snd.fst ≤ (↑n.toNat : Int))) ∧
                      (RInv n.toNat v'.snd.fst v'.snd.snd.fst v'.snd.snd.snd (List.take v'.fst.toNat l))) ∧
                     (((↑l.length : Int) + (1 : Int) - v'.fst).toNat < ((↑l.length : Int) + (1 : Int) - v_10.fst).toNat))
                    (∀ (n152 : Int),
                     (n152 = IntKind.i64.wrap ((↑v_10.fst.toNat : Int) + (1 : Int))) →
                     ((-9223372036854775808 : Int) ≤ n152 ∧ n152 ≤ (9223372036854775807 : Int)) →
                     ∃ (v' : Int × Int × Int × List Int),
                     (n = n) ∧
                     (l = l) ∧
                     (p = p) ∧
                     (n152 = v'.fst) ∧
                     ((0 : Nat) = (0 : Nat)) ∧
                     (n.toNat = n.toNat) ∧
                     (v_123.snd.fst = v'.snd.fst) ∧
                     (v_123.snd.snd.fst = v'.snd.snd.fst) ∧
                     (v_123.snd.snd.snd.fst = v'.snd.snd.snd) ∧
                     (n = n) ∧
                     (List.take v_10.fst.toNat l = List.take v'.fst.toNat l) ∧
                     (
                      (
                       ((0 : Int) ≤ v'.fst) ∧
                       (v'.fst ≤ (↑l.length : Int) + (1 : Int))) ∧
                      (
                       (
                        ((1 : Nat) ≤ n.toNat) ∧
                        (n.toNat ≤ (1024 : Nat))) ∧
                       (v'.snd.snd.snd.length = n.toNat) ∧
                       (
                        ((0 : Int) ≤ v'.snd.fst) ∧
                        (v'.snd.fst < (↑n.toNat : Int))) ∧
                       ((0 : Int) ≤ v'.snd.snd.fst) ∧
                       (v'.snd.snd.fst ≤ (↑n.toNat : Int))) ∧
                      (RInv n.toNat v'.snd.fst v'.snd.snd.fst v'.snd.snd.snd (List.take v'.fst.toNat l))) ∧
                     (((↑l.length : Int) + (1 : Int) - v'.fst).toNat < ((↑l.length : Int) + (1 : Int) - v_10.fst).toNat)))))) ∧
            ∀ (n155 : Int),
            (n155 = (↑(List.take v_10.fst.toNat l).length : Int)) →
            (
             br (bif false then true else s_31 != s_47)
              ((true = true) ∧
               (k (AV.bool false) [] []))
              ((
                (
                 ((1 : Nat) ≤ n.toNat) ∧
                 (n.toNat ≤ (1024 : Nat))) ∧
                (v_10.snd.snd.snd.length = n.toNat) ∧
                (
                 ((0 : Int) ≤ v_10.snd.fst) ∧
                 (v_10.snd.fst < (↑n.toNat : Int))) ∧
                ((0 : Int) ≤ v_10.snd.snd.fst) ∧
                (v_10.snd.snd.fst ≤ (↑n.toNat : Int))) ∧
               br (bif false then true else !(v_10.snd.snd.fst == (↑n.toNat : Int)) == decide (n155 ≥ n))
                ((k (AV.bool false) [] []))
                ((
                  ∃ (v : Int × Int × Int × List Int × Nat × List Int),
                  (n = n) ∧
                  (l = l) ∧
                  (p = p) ∧
                  (v_10.fst = (↑v_10.fst.toNat : Int)) ∧
                  ((0 : Nat) = (0 : Nat)) ∧
                  (q_28 = v.snd.snd.snd.snd.fst) ∧
                  ((0 : Int) = v.fst) ∧
                  ((0 : Nat) = (0 : Nat)) ∧
                  (n.toNat = n.toNat) ∧
                  (v_10.snd.fst = v.snd.fst) ∧
                  (v_10.snd.snd.fst = v.snd.snd.fst) ∧
                  (v_10.snd.snd.snd = v.snd.snd.snd.fst) ∧
                  (n = n) ∧
                  (List.take v_10.fst.toNat l = List.take v_10.fst.toNat l) ∧
                  (ys_27 = v.snd.snd.snd.snd.snd) ∧
                  (
                   ((0 : Int) ≤ v.fst) ∧
                   (v.fst ≤ (↑v.snd.snd.snd.snd.fst : Int))) ∧
                  (
                   (
                    ((1 : Nat) ≤ n.toNat) ∧
                    (n.toNat ≤ (1024 : Nat))) ∧
                   (v.snd.snd.snd.fst.length = n.toNat) ∧
                   (
                    ((0 : Int) ≤ v.snd.fst) ∧
                    (v.snd.fst < (↑n.toNat : Int))) ∧
                   ((0 : Int) ≤ v.snd.snd.fst) ∧
                   (v.snd.snd.fst ≤ (↑n.toNat : Int))) ∧
                  (RInv n.toNat v.snd.fst v.snd.snd.fst v.snd.snd.snd.fst (List.take v_10.fst.toNat l)) ∧
                  (v.snd.snd.snd.snd.snd.length = v.snd.snd.snd.snd.fst)) ∧
                 ∀ (v_157 : Int × Int × Int × List Int × Nat × List Int),
                 (((0 : Int) ≤ v_157.fst ∧ v_157.fst ≤ (↑v_157.snd.snd.snd.snd.fst : Int)) ∧ (((1 : Nat) ≤ n.toNat ∧ n.toNat ≤ (1024 : Nat)) ∧ v_157.snd.snd.snd.fst.length = n.toNat ∧ ((0 : Int) ≤ v_157.snd.fst ∧ v_157.snd.fst < (↑n.toNat : Int)) ∧ (0 : Int) ≤ v_157.snd.snd.fst ∧ v_157.snd.snd.fst ≤ (↑n.toNat : Int)) ∧ RInv n.toNat v_157.snd.fst v_157.snd.snd.fst v_157.snd.snd.snd.fst (List.take v_10.fst.toNat l) ∧ v_157.snd.snd.snd.snd.snd.length = v_157.snd.snd.snd.snd.fst) →
                 ∀ (n159 : Int),
                 (n159 = (↑v_157.snd.snd.snd.snd.fst : Int)) →
                 ((-9223372036854775808 : Int) ≤ n159 ∧ n159 ≤ (9223372036854775807 : Int)) →
                 br (decide (v_157.fst < n159))
                  (((0 : Int) ≤ v_157.fst) ∧
                   (v_157.fst < (↑v_157.snd.snd.snd.snd.fst : Int)) ∧
                   ((0 : Nat) + v_157.fst.toNat < v_157.snd.snd.snd.snd.snd.length) ∧
                   ∀ (z162 : List Int),
                   (z162 = v_157.snd.snd.snd.snd.snd.set ((0 : Nat) + v_157.fst.toNat) (77 : Int)) →
                   ∀ (n164 : Int),
                   (n164 = IntKind.i64.wrap (v_157.fst + (1 : Int))) →
                   ((-9223372036854775808 : Int) ≤ n164 ∧ n164 ≤ (9223372036854775807 : Int)) →
                   ∃ (v' : Int × Int × Int × List Int × Nat × List Int),
                   (n = n) ∧
                   (l = l) ∧
                   (p = p) ∧
                   ((↑v_10.fst.toNat : Int) = (↑v_10.fst.toNat : Int)) ∧
                   ((0 : Nat) = (0 : Nat)) ∧
                   (v_157.snd.snd.snd.snd.fst = v'.snd.snd.snd.snd.fst) ∧
                   (n164 = v'.fst) ∧
                   ((0 : Nat) = (0 : Nat)) ∧
                   (n.toNat = n.toNat) ∧
                   (v_157.snd.fst = v'.snd.fst) ∧
                   (v_157.snd.snd.fst = v'.snd.snd.fst) ∧
                   (v_157.snd.snd.snd.fst = v'.snd.snd.snd.fst) ∧
                   (n = n) ∧
                   (List.take v_10.fst.toNat l = List.take v_10.fst.toNat l) ∧
                   (z162 = v'.snd.snd.snd.snd.snd) ∧
                   (
                    (
                     ((0 : Int) ≤ v'.fst) ∧
                     (v'.fst ≤ (↑v'.snd.snd.snd.snd.fst : Int))) ∧
                    (
                     (
                      ((1 : Nat) ≤ n.toNat) ∧
                      (n.toNat ≤ (1024 : Nat))) ∧
                     (v'.snd.snd.snd.fst.length = n.toNat) ∧
                     (
                      ((0 : Int) ≤ v'.snd.fst) ∧
                      (v'.snd.fst < (↑n.toNat : Int))) ∧
                     ((0 : Int) ≤ v'.snd.snd.fst) ∧
                     (v'.snd.snd.fst ≤ (↑n.toNat : Int))) ∧
                    (RInv n.toNat v'.snd.fst v'.snd.snd.fst v'.snd.snd.snd.fst (List.take v_10.fst.toNat l)) ∧
                    (v'.snd.snd.snd.snd.snd.length = v'.snd.snd.snd.snd.fst)) ∧
                   (((↑v'.snd.snd.snd.snd.fst : Int) - v'.fst).toNat < ((↑v_157.snd.snd.snd.snd.fst : Int) - v_157.fst).toNat))
                  (∀ (n167 : Int),
                   (n167 = (↑l.length : Int)) →
                   ((-9223372036854775808 : Int) ≤ n167 ∧ n167 ≤ (9223372036854775807 : Int)) →
                   br (decide ((↑v_10.fst.toNat : Int) < n167))
                    (((0 : Int) ≤ (↑v_10.fst.toNat : Int)) ∧
                     ((↑v_10.fst.toNat : Int) < (↑l.length : Int)) ∧
                     ∀ (n170 : Int),
                     (n170 = l.getD (↑v_10.fst.toNat : Int).toNat (0 : Int)) →
                     ((-9223372036854775808 : Int) ≤ n170 ∧ n170 ≤ (9223372036854775807 : Int)) →
                     (
                      (
                       ((1 : Nat) ≤ n.toNat) ∧
                       (n.toNat ≤ (1024 : Nat))) ∧
                      (v_157.snd.snd.snd.fst.length = n.toNat) ∧
                      (
                       ((0 : Int) ≤ v_157.snd.fst) ∧
                       (v_157.snd.fst < (↑n.toNat : Int))) ∧
                      ((0 : Int) ≤ v_157.snd.snd.fst) ∧
                      (v_157.snd.snd.fst ≤ (↑n.toNat : Int))) ∧
                     (
                      ((-9223372036854775808 : Int) ≤ n170) ∧
                      (n170 ≤ (9223372036854775807 : Int))) ∧
                     ∀ (a1_173 : Int),
                     ∀ (m1_174 : Int),
                     ∀ (ys_175 : List Int),
                     (a1_173 = (v_157.snd.fst + (1 : Int)) % (↑n.toNat : Int)) →
                     (m1_174 = min (v_157.snd.snd.fst + (1 : Int)) (↑n.toNat : Int)) →
                     (ys_175 = v_157.snd.snd.snd.fst.set v_157.snd.fst.toNat n170) →
                     (((1 : Nat) ≤ n.toNat ∧ n.toNat ≤ (1024 : Nat)) ∧ ys_175.length = n.toNat ∧ ((0 : Int) ≤ a1_173 ∧ a1_173 < (↑n.toNat : Int)) ∧ (0 : Int) ≤ m1_174 ∧ m1_174 ≤ (↑n.toNat : Int)) →
                     ((0 : Int) ≤ (↑v_10.fst.toNat : Int)) ∧
                     ((↑v_10.fst.toNat : Int) < (↑l.length : Int)) ∧
                     ∀ (n180 : Int),
                     (n180 = l.getD (↑v_10.fst.toNat : Int).toNat (0 : Int)) →
                     ((-9223372036854775808 : Int) ≤ n180 ∧ n180 ≤ (9223372036854775807 : Int)) →
                     (
                      ((-9223372036854775808 : Int) ≤ n) ∧
                      (n ≤ (9223372036854775807 : Int))) ∧
                     ((List.take v_10.fst.toNat l).length ≤ (2000 : Nat)) ∧
                     (
                      ((-9223372036854775808 : Int) ≤ n180) ∧
                      (n180 ≤ (9223372036854775807 : Int))) ∧
                     ∀ (n183 : Int),
                     (n183 = IntKind.i64.wrap ((↑v_10.fst.toNat : Int) + (1 : Int))) →
                     ((-9223372036854775808 : Int) ≤ n183 ∧ n183 ≤ (9223372036854775807 : Int)) →
                     ∃ (v' : Int × Int × Int × List Int),
                     (n = n) ∧
                     (l = l) ∧
                     (p = p) ∧
                     (n183 = v'.fst) ∧
                     ((0 : Nat) = (0 : Nat)) ∧
                     (n.toNat = n.toNat) ∧
                     (a1_173 = v'.snd.fst) ∧
                     (m1_174 = v'.snd.snd.fst) ∧
                     (ys_175 = v'.snd.snd.snd) ∧
                     (n = n) ∧
                     (List.take v_10.fst.toNat l ++ [n180] = List.take v'.fst.toNat l) ∧
                     (
                      (
                       ((0 : Int) ≤ v'.fst) ∧
                       (v'.fst ≤ (↑l.length : Int) + (1 : Int))) ∧
                      (
                       (
                        ((1 : Nat) ≤ n.toNat) ∧
                        (n.toNat ≤ (1024 : Nat))) ∧
                       (v'.snd.snd.snd.length = n.toNat) ∧
                       (
                        ((0 : Int) ≤ v'.snd.fst) ∧
                        (v'.snd.fst < (↑n.toNat : Int))) ∧
                       ((0 : Int) ≤ v'.snd.snd.fst) ∧
                       (v'.snd.snd.fst ≤ (↑n.toNat : Int))) ∧
                      (RInv n.toNat v'.snd.fst v'.snd.snd.fst v'.snd.snd.snd (List.take v'.fst.toNat l))) ∧
                     (((↑l.length : Int) + (1 : Int) - v'.fst).toNat < ((↑l.length : Int) + (1 : Int) - v_10.fst).toNat))
                    (∀ (n186 : Int),
                     (n186 = IntKind.i64.wrap ((↑v_10.fst.toNat : Int) + (1 : Int))) →
                     ((-9223372036854775808 : Int) ≤ n186 ∧ n186 ≤ (9223372036854775807 : Int)) →
                     ∃ (v' : Int × Int × Int × List Int),
                     (n = n) ∧
                     (l = l) ∧
                     (p = p) ∧
                     (n186 = v'.fst) ∧
                     ((0 : Nat) = (0 : Nat)) ∧
                     (n.toNat = n.toNat) ∧
                     (v_157.snd.fst = v'.snd.fst) ∧
                     (v_157.snd.snd.fst = v'.snd.snd.fst) ∧
                     (v_157.snd.snd.snd.fst = v'.snd.snd.snd) ∧
                     (n = n) ∧
                     (List.take v_10.fst.toNat l = List.take v'.fst.toNat l) ∧
                     (
                      (
                       ((0 : Int) ≤ v'.fst) ∧
                       (v'.fst ≤ (↑l.length : Int) + (1 : Int))) ∧
                      (
                       (
                        ((1 : Nat) ≤ n.toNat) ∧
                        (n.toNat ≤ (1024 : Nat))) ∧
                       (v'.snd.snd.snd.length = n.toNat) ∧
                       (
                        ((0 : Int) ≤ v'.snd.fst) ∧
                        (v'.snd.fst < (↑n.toNat : Int))) ∧
                       ((0 : Int) ≤ v'.snd.snd.fst) ∧
                       (v'.snd.snd.fst ≤ (↑n.toNat : Int))) ∧
                      (RInv n.toNat v'.snd.fst v'.snd.snd.fst v'.snd.snd.snd (List.take v'.fst.toNat l))) ∧
                     (((↑l.length : Int) + (1 : Int) - v'.fst).toNat < ((↑l.length : Int) + (1 : Int) - v_10.fst).toNat)))))) ∧
            br (bif false then true else s_31 != s_47)
             ((true = true) ∧
              (k (AV.bool false) [] []))
             ((
               (
                ((1 : Nat) ≤ n.toNat) ∧
                (n.toNat ≤ (1024 : Nat))) ∧
               (v_10.snd.snd.snd.length = n.toNat) ∧
               (
                ((0 : Int) ≤ v_10.snd.fst) ∧
                (v_10.snd.fst < (↑n.toNat : Int))) ∧
               ((0 : Int) ≤ v_10.snd.snd.fst) ∧
               (v_10.snd.snd.fst ≤ (↑n.toNat : Int))) ∧
              br (bif false then true else !(v_10.snd.snd.fst == (↑n.toNat : Int)) == decide (n155 ≥ n))
               ((k (AV.bool false) [] []))
               ((
                 ∃ (v : Int × Int × Int × List Int × Nat × List Int),
                 (n = n) ∧
                 (l = l) ∧
                 (p = p) ∧
                 (v_10.fst = (↑v_10.fst.toNat : Int)) ∧
                 ((0 : Nat) = (0 : Nat)) ∧
                 (q_28 = v.snd.snd.snd.snd.fst) ∧
                 ((0 : Int) = v.fst) ∧
                 ((0 : Nat) = (0 : Nat)) ∧
                 (n.toNat = n.toNat) ∧
                 (v_10.snd.fst = v.snd.fst) ∧
                 (v_10.snd.snd.fst = v.snd.snd.fst) ∧
                 (v_10.snd.snd.snd = v.snd.snd.snd.fst) ∧
                 (n = n) ∧
                 (List.take v_10.fst.toNat l = List.take v_10.fst.toNat l) ∧
                 (ys_27 = v.snd.snd.snd.snd.snd) ∧
                 (
                  ((0 : Int) ≤ v.fst) ∧
                  (v.fst ≤ (↑v.snd.snd.snd.snd.fst : Int))) ∧
                 (
                  (
                   ((1 : Nat) ≤ n.toNat) ∧
                   (n.toNat ≤ (1024 : Nat))) ∧
                  (v.snd.snd.snd.fst.length = n.toNat) ∧
                  (
                   ((0 : Int) ≤ v.snd.fst) ∧
                   (v.snd.fst < (↑n.toNat : Int))) ∧
                  ((0 : Int) ≤ v.snd.snd.fst) ∧
                  (v.snd.snd.fst ≤ (↑n.toNat : Int))) ∧
                 (RInv n.toNat v.snd.fst v.snd.snd.fst v.snd.snd.snd.fst (List.take v_10.fst.toNat l)) ∧
                 (v.snd.snd.snd.snd.snd.length = v.snd.snd.snd.snd.fst)) ∧
                ∀ (v_189 : Int × Int × Int × List Int × Nat × List Int),
                (((0 : Int) ≤ v_189.fst ∧ v_189.fst ≤ (↑v_189.snd.snd.snd.snd.fst : Int)) ∧ (((1 : Nat) ≤ n.toNat ∧ n.toNat ≤ (1024 : Nat)) ∧ v_189.snd.snd.snd.fst.length = n.toNat ∧ ((0 : Int) ≤ v_189.snd.fst ∧ v_189.snd.fst < (↑n.toNat : Int)) ∧ (0 : Int) ≤ v_189.snd.snd.fst ∧ v_189.snd.snd.fst ≤ (↑n.toNat : Int)) ∧ RInv n.toNat v_189.snd.fst v_189.snd.snd.fst v_189.snd.snd.snd.fst (List.take v_10.fst.toNat l) ∧ v_189.snd.snd.snd.snd.snd.length = v_189.snd.snd.snd.snd.fst) →
                ∀ (n191 : Int),
                (n191 = (↑v_189.snd.snd.snd.snd.fst : Int)) →
                ((-9223372036854775808 : Int) ≤ n191 ∧ n191 ≤ (9223372036854775807 : Int)) →
                br (decide (v_189.fst < n191))
                 (((0 : Int) ≤ v_189.fst) ∧
                  (v_189.fst < (↑v_189.snd.snd.snd.snd.fst : Int)) ∧
                  ((0 : Nat) + v_189.fst.toNat < v_189.snd.snd.snd.snd.snd.length) ∧
                  ∀ (z194 : List Int),
                  (z194 = v_189.snd.snd.snd.snd.snd.set ((0 : Nat) + v_189.fst.toNat) (77 : Int)) →
                  ∀ (n196 : Int),
                  (n196 = IntKind.i64.wrap (v_189.fst + (1 : Int))) →
                  ((-9223372036854775808 : Int) ≤ n196 ∧ n196 ≤ (9223372036854775807 : Int)) →
                  ∃ (v' : Int × Int × Int × List Int × Nat × List Int),
                  (n = n) ∧
                  (l = l) ∧
                  (p = p) ∧
                  ((↑v_10.fst.toNat : Int) = (↑v_10.fst.toNat : Int)) ∧
                  ((0 : Nat) = (0 : Nat)) ∧
                  (v_189.snd.snd.snd.snd.fst = v'.snd.snd.snd.snd.fst) ∧
                  (n196 = v'.fst) ∧
                  ((0 : Nat) = (0 : Nat)) ∧
                  (n.toNat = n.toNat) ∧
                  (v_189.snd.fst = v'.snd.fst) ∧
                  (v_189.snd.snd.fst = v'.snd.snd.fst) ∧
                  (v_189.snd.snd.snd.fst = v'.snd.snd.snd.fst) ∧
                  (n = n) ∧
                  (List.take v_10.fst.toNat l = List.take v_10.fst.toNat l) ∧
                  (z194 = v'.snd.snd.snd.snd.snd) ∧
                  (
                   (
                    ((0 : Int) ≤ v'.fst) ∧
                    (v'.fst ≤ (↑v'.snd.snd.snd.snd.fst : Int))) ∧
                   (
                    (
                     ((1 : Nat) ≤ n.toNat) ∧
                     (n.toNat ≤ (1024 : Nat))) ∧
                    (v'.snd.snd.snd.fst.length = n.toNat) ∧
                    (
                     ((0 : Int) ≤ v'.snd.fst) ∧
                     (v'.snd.fst < (↑n.toNat : Int))) ∧
                    ((0 : Int) ≤ v'.snd.snd.fst) ∧
                    (v'.snd.snd.fst ≤ (↑n.toNat : Int))) ∧
                   (RInv n.toNat v'.snd.fst v'.snd.snd.fst v'.snd.snd.snd.fst (List.take v_10.fst.toNat l)) ∧
                   (v'.snd.snd.snd.snd.snd.length = v'.snd.snd.snd.snd.fst)) ∧
                  (((↑v'.snd.snd.snd.snd.fst : Int) - v'.fst).toNat < ((↑v_189.snd.snd.snd.snd.fst : Int) - v_189.fst).toNat))
                 (∀ (n199 : Int),
                  (n199 = (↑l.length : Int)) →
                  ((-9223372036854775808 : Int) ≤ n199 ∧ n199 ≤ (9223372036854775807 : Int)) →
                  br (decide ((↑v_10.fst.toNat : Int) < n199))
                   (((0 : Int) ≤ (↑v_10.fst.toNat : Int)) ∧
                    ((↑v_10.fst.toNat : Int) < (↑l.length : Int)) ∧
                    ∀ (n202 : Int),
                    (n202 = l.getD (↑v_10.fst.toNat : Int).toNat (0 : Int)) →
                    ((-9223372036854775808 : Int) ≤ n202 ∧ n202 ≤ (9223372036854775807 : Int)) →
                    (
                     (
                      ((1 : Nat) ≤ n.toNat) ∧
                      (n.toNat ≤ (1024 : Nat))) ∧
                     (v_189.snd.snd.snd.fst.length = n.toNat) ∧
                     (
                      ((0 : Int) ≤ v_189.snd.fst) ∧
                      (v_189.snd.fst < (↑n.toNat : Int))) ∧
                     ((0 : Int) ≤ v_189.snd.snd.fst) ∧
                     (v_189.snd.snd.fst ≤ (↑n.toNat : Int))) ∧
                    (
                     ((-9223372036854775808 : Int) ≤ n202) ∧
                     (n202 ≤ (9223372036854775807 : Int))) ∧
                    ∀ (a1_205 : Int),
                    ∀ (m1_206 : Int),
                    ∀ (ys_207 : List Int),
                    (a1_205 = (v_189.snd.fst + (1 : Int)) % (↑n.toNat : Int)) →
                    (m1_206 = min (v_189.snd.snd.fst + (1 : Int)) (↑n.toNat : Int)) →
                    (ys_207 = v_189.snd.snd.snd.fst.set v_189.snd.fst.toNat n202) →
                    (((1 : Nat) ≤ n.toNat ∧ n.toNat ≤ (1024 : Nat)) ∧ ys_207.length = n.toNat ∧ ((0 : Int) ≤ a1_205 ∧ a1_205 < (↑n.toNat : Int)) ∧ (0 : Int) ≤ m1_206 ∧ m1_206 ≤ (↑n.toNat : Int)) →
                    ((0 : Int) ≤ (↑v_10.fst.toNat : Int)) ∧
                    ((↑v_10.fst.toNat : Int) < (↑l.length : Int)) ∧
                    ∀ (n212 : Int),
                    (n212 = l.getD (↑v_10.fst.toNat : Int).toNat (0 : Int)) →
                    ((-9223372036854775808 : Int) ≤ n212 ∧ n212 ≤ (9223372036854775807 : Int)) →
                    (
                     ((-9223372036854775808 : Int) ≤ n) ∧
                     (n ≤ (9223372036854775807 : Int))) ∧
                    ((List.take v_10.fst.toNat l).length ≤ (2000 : Nat)) ∧
                    (
                     ((-9223372036854775808 : Int) ≤ n212) ∧
                     (n212 ≤ (9223372036854775807 : Int))) ∧
                    ∀ (n215 : Int),
                    (n215 = IntKind.i64.wrap ((↑v_10.fst.toNat : Int) + (1 : Int))) →
                    ((-9223372036854775808 : Int) ≤ n215 ∧ n215 ≤ (9223372036854775807 : Int)) →
                    ∃ (v' : Int × Int × Int × List Int),
                    (n = n) ∧
                    (l = l) ∧
                    (p = p) ∧
                    (n215 = v'.fst) ∧
                    ((0 : Nat) = (0 : Nat)) ∧
                    (n.toNat = n.toNat) ∧
                    (a1_205 = v'.snd.fst) ∧
                    (m1_206 = v'.snd.snd.fst) ∧
                    (ys_207 = v'.snd.snd.snd) ∧
                    (n = n) ∧
                    (List.take v_10.fst.toNat l ++ [n212] = List.take v'.fst.toNat l) ∧
                    (
                     (
                      ((0 : Int) ≤ v'.fst) ∧
                      (v'.fst ≤ (↑l.length : Int) + (1 : Int))) ∧
                     (
                      (
                       ((1 : Nat) ≤ n.toNat) ∧
                       (n.toNat ≤ (1024 : Nat))) ∧
                      (v'.snd.snd.snd.length = n.toNat) ∧
                      (
                       ((0 : Int) ≤ v'.snd.fst) ∧
                       (v'.snd.fst < (↑n.toNat : Int))) ∧
                      ((0 : Int) ≤ v'.snd.snd.fst) ∧
                      (v'.snd.snd.fst ≤ (↑n.toNat : Int))) ∧
                     (RInv n.toNat v'.snd.fst v'.snd.snd.fst v'.snd.snd.snd (List.take v'.fst.toNat l))) ∧
                    (((↑l.length : Int) + (1 : Int) - v'.fst).toNat < ((↑l.length : Int) + (1 : Int) - v_10.fst).toNat))
                   (∀ (n218 : Int),
                    (n218 = IntKind.i64.wrap ((↑v_10.fst.toNat : Int) + (1 : Int))) →
                    ((-9223372036854775808 : Int) ≤ n218 ∧ n218 ≤ (9223372036854775807 : Int)) →
                    ∃ (v' : Int × Int × Int × List Int),
                    (n = n) ∧
                    (l = l) ∧
                    (p = p) ∧
                    (n218 = v'.fst) ∧
                    ((0 : Nat) = (0 : Nat)) ∧
                    (n.toNat = n.toNat) ∧
                    (v_189.snd.fst = v'.snd.fst) ∧
                    (v_189.snd.snd.fst = v'.snd.snd.fst) ∧
                    (v_189.snd.snd.snd.fst = v'.snd.snd.snd) ∧
                    (n = n) ∧
                    (List.take v_10.fst.toNat l = List.take v'.fst.toNat l) ∧
                    (
                     (
                      ((0 : Int) ≤ v'.fst) ∧
                      (v'.fst ≤ (↑l.length : Int) + (1 : Int))) ∧
                     (
                      (
                       ((1 : Nat) ≤ n.toNat) ∧
                       (n.toNat ≤ (1024 : Nat))) ∧
                      (v'.snd.snd.snd.length = n.toNat) ∧
                      (
                       ((0 : Int) ≤ v'.snd.fst) ∧
                       (v'.snd.fst < (↑n.toNat : Int))) ∧
                      ((0 : Int) ≤ v'.snd.snd.fst) ∧
                      (v'.snd.snd.fst ≤ (↑n.toNat : Int))) ∧
                     (RInv n.toNat v'.snd.fst v'.snd.snd.fst v'.snd.snd.snd (List.take v'.fst.toNat l))) ∧
                    (((↑l.length : Int) + (1 : Int) - v'.fst).toNat < ((↑l.length : Int) + (1 : Int) - v_10.fst).toNat))))))))
       ((k (AV.bool true) [] []))) ∧
     ((n < (1 : Int) ∨ (1024 : Int) < n) →
     (k (AV.bool false) [] []))) ∧
    ((n < (1 : Int) ∨ (1024 : Int) < n) →
    (
     ((-9223372036854775808 : Int) ≤ n) ∧
     (n ≤ (9223372036854775807 : Int))) ∧
    (
     ((1 : Int) ≤ n) →
     (n ≤ (1024 : Int)) →
     (k (AV.bool false) [] [])) ∧
    ((n < (1 : Int) ∨ (1024 : Int) < n) →
    (k (AV.bool true) [] [])))) := by
  intro n1
  intro q1 -- n1 = (↑l.length : Int)
  intro ⟨l1, u1⟩ -- (-9223372036854775808 : Int) ≤ n1 ∧ n1 ≤ (9223372036854775807 : Int)
  refine brd (fun c1 => ?_) (fun c1 => ?_) -- decide (n1 > (200 : Int))
  · -- yes
    exact by exact hk -- k (AV.bool true) [] []
  · -- no
    refine ⟨by exact ⟨by assumption, by assumption⟩, ?_⟩ -- (-9223372036854775808 : Int) ≤ n ∧ n ≤ (9223372036854775807 : Int)
    refine ⟨?_, ?_⟩
    · -- left
      intro h2 -- (1 : Int) ≤ n
      intro h3 -- n ≤ (1024 : Int)
      intro q_4
      intro xs_5
      intro h4 -- (↑q_4 : Int) = n
      intro h5 -- xs_5 = List.replicate q_4 (0 : Int)
      refine ⟨by exact ⟨by assumption, by assumption⟩, ?_⟩ -- (-9223372036854775808 : Int) ≤ n ∧ n ≤ (9223372036854775807 : Int)
      refine ⟨?_, ?_⟩
      · -- left
        intro h6 -- (1 : Int) ≤ n
        intro h7 -- n ≤ (1024 : Int)
        refine ⟨?_, ?_⟩
        · -- left
          refine ⟨((0 : Int), (0 : Int), (0 : Int), xs_5), ?_⟩
          refine ⟨by first | with_reducible rfl | rfl, ?_⟩ -- n = n
          refine ⟨by first | with_reducible rfl | rfl, ?_⟩ -- l = l
          refine ⟨by first | with_reducible rfl | rfl, ?_⟩ -- p = p
          refine ⟨by first | with_reducible rfl | rfl, ?_⟩ -- (0 : Int) = (0 : Int)
          refine ⟨by first | with_reducible rfl | rfl, ?_⟩ -- (0 : Nat) = (0 : Nat)
          refine ⟨by show q_4 = n.toNat; omega, ?_⟩ -- q_4 = n.toNat
          refine ⟨by first | with_reducible rfl | rfl, ?_⟩ -- (0 : Int) = (0 : Int)
          refine ⟨by first | with_reducible rfl | rfl, ?_⟩ -- (0 : Int) = (0 : Int)
          refine ⟨by first | with_reducible rfl | rfl, ?_⟩ -- xs_5 = xs_5
          refine ⟨by first | with_reducible rfl | rfl, ?_⟩ -- n = n
          refine ⟨by rfl, ?_⟩ -- List.take (Int.toNat (0 : Int)) l = []
          refine ⟨by first | omega | (dsimp only; omega), ?_⟩ -- (0 : Int) ≤ (0 : Int) ∧ (0 : Int) ≤ (↑l.length : Int) + (1 : Int)
          refine ⟨?_, ?_⟩
          · -- left
            refine ⟨by first | omega | (dsimp only; omega), ?_⟩ -- (1 : Nat) ≤ n.toNat ∧ n.toNat ≤ (1024 : Nat)
            have h8 : xs_5.length = n.toNat := by
              rw [h5]; simp; omega
            refine ⟨h8, ?_⟩
            refine ⟨by first | omega | (dsimp only; omega), ?_⟩ -- (0 : Int) ≤ (0 : Int) ∧ (0 : Int) < (↑n.toNat : Int)
            refine ⟨by show (0 : Int) ≤ (0 : Int); omega, ?_⟩ -- (0 : Int) ≤ (0 : Int)
            exact by show (0 : Int) ≤ (↑n.toNat : Int); omega -- (0 : Int) ≤ (↑n.toNat : Int)
          -- RInv n.toNat (0 : Int) (0 : Int) xs_5 (List.take (Int.toNat (0 : Int)) l)
          rw [h5, show n.toNat = q_4 by omega]; exact rinv_new (by omega)
        intro v_10
        intro h9 -- ((0 : Int) ≤ v_10.fst ∧ v_10.fst ≤ (↑l.length : Int) + (1 : Int)) ∧ (((1 : Nat) ≤ n.toNat ∧ n.toNat ≤ (1024 : Nat)) ∧ v_10.snd.snd.snd.length = n.toNat ∧ ((0 : Int) ≤ v_10.snd.fst ∧ v_10.snd.fst < (↑n.toNat : Int)) ∧ (0 : Int) ≤ v_10.snd.snd.fst ∧ v_10.snd.snd.fst ≤ (↑n.toNat : Int)) ∧ RInv n.toNat v_10.snd.fst v_10.snd.snd.fst v_10.snd.snd.snd (List.take v_10.fst.toNat l)
        have hl : (List.take v_10.fst.toNat l).length = min v_10.fst.toNat l.length := by simp
        intro n12
        intro q12 -- n12 = (↑l.length : Int)
        intro ⟨l12, u12⟩ -- (-9223372036854775808 : Int) ≤ n12 ∧ n12 ≤ (9223372036854775807 : Int)
        refine brd (fun c10 => ?_) (fun c10 => ?_) -- decide (v_10.fst ≤ n12)
        · -- yes
          refine ⟨?_, ?_⟩
          · -- left
            refine ⟨by first | omega | (dsimp only; omega), ?_⟩ -- (1 : Nat) ≤ n.toNat ∧ n.toNat ≤ (1024 : Nat)
            refine ⟨by first | omega | (dsimp only; omega), ?_⟩ -- v_10.snd.snd.snd.length = n.toNat
            refine ⟨by first | omega | (dsimp only; omega), ?_⟩ -- (0 : Int) ≤ v_10.snd.fst ∧ v_10.snd.fst < (↑n.toNat : Int)
            refine ⟨by first | omega | (dsimp only; omega), ?_⟩ -- (0 : Int) ≤ v_10.snd.snd.fst
            exact by omega -- v_10.snd.snd.fst ≤ (↑n.toNat : Int)
          refine ⟨by exact ⟨by assumption, by assumption⟩, ?_⟩ -- (-9223372036854775808 : Int) ≤ p ∧ p ≤ (9223372036854775807 : Int)
          intro v_15
          intro e_16
          intro h11 -- v_15 = atV n.toNat v_10.snd.fst v_10.snd.snd.fst v_10.snd.snd.snd p
          intro h12 -- e_16 = atE v_10.snd.snd.fst p
          intro ⟨a13, b13⟩ -- (-9223372036854775808 : Int) ≤ v_15 ∧ v_15 ≤ (9223372036854775807 : Int)
          intro h14 -- e_16 = (0 : Int) ∨ e_16 = (2 : Int)
          refine ⟨by exact ⟨by assumption, by assumption⟩, ?_⟩ -- (1 : Int) ≤ n ∧ n ≤ (1024 : Int)
          refine ⟨by first | omega | (dsimp only; omega), ?_⟩ -- (List.take v_10.fst.toNat l).length ≤ (2000 : Nat)
          refine ⟨by exact ⟨by assumption, by assumption⟩, ?_⟩ -- (-9223372036854775808 : Int) ≤ p ∧ p ≤ (9223372036854775807 : Int)
          intro v_21
          intro e_22
          intro h15 -- v_21 = if (0 : Int) ≤ p ∧ p < (↑(lastL n.toNat (List.take v_10.fst.toNat l)).length : Int) then (lastL n.toNat (List.take v_10.fst.toNat l)).getD ((lastL n.toNat (List.take v_10.fst.toNat l)).length - (1 : Nat) - p.toNat) (0 : Int) else (0 : Int)
          intro h16 -- e_22 = if (0 : Int) ≤ p ∧ p < (↑(lastL n.toNat (List.take v_10.fst.toNat l)).length : Int) then (0 : Int) else (2 : Int)
          have eA : v_15 = v_21 := by rw [h11, h15]; exact (at_eq h9.2.2 p).1
          have eB : e_16 = e_22 := by rw [h12, h16]; exact (at_eq h9.2.2 p).2
          intro ⟨a17, b17⟩ -- (-9223372036854775808 : Int) ≤ v_21 ∧ v_21 ≤ (9223372036854775807 : Int)
          intro h18 -- e_22 = (0 : Int) ∨ e_22 = (2 : Int)
          refine ⟨?_, ?_⟩
          · -- left
            refine ⟨by first | omega | (dsimp only; omega), ?_⟩ -- (1 : Nat) ≤ n.toNat ∧ n.toNat ≤ (1024 : Nat)
            refine ⟨by first | omega | (dsimp only; omega), ?_⟩ -- v_10.snd.snd.snd.length = n.toNat
            refine ⟨by first | omega | (dsimp only; omega), ?_⟩ -- (0 : Int) ≤ v_10.snd.fst ∧ v_10.snd.fst < (↑n.toNat : Int)
            refine ⟨by first | omega | (dsimp only; omega), ?_⟩ -- (0 : Int) ≤ v_10.snd.snd.fst
            exact by omega -- v_10.snd.snd.fst ≤ (↑n.toNat : Int)
          intro ys_27
          intro q_28
          intro h19 -- ys_27 = allR n.toNat v_10.snd.fst v_10.snd.snd.fst v_10.snd.snd.snd q_28
          intro h20 -- (↑q_28 : Int) = v_10.snd.snd.fst
          have eD : ys_27 = lastL n.toNat (List.take v_10.fst.toNat l) := by rw [h19]; exact allR_eq h9.2.2 h20
          have eL : ys_27.length = q_28 := by rw [h19, allR_length]
          refine ⟨?_, ?_⟩
          · -- left
            refine ⟨by first | omega | (dsimp only; omega), ?_⟩ -- (1 : Nat) ≤ n.toNat ∧ n.toNat ≤ (1024 : Nat)
            refine ⟨by first | omega | (dsimp only; omega), ?_⟩ -- v_10.snd.snd.snd.length = n.toNat
            refine ⟨by first | omega | (dsimp only; omega), ?_⟩ -- (0 : Int) ≤ v_10.snd.fst ∧ v_10.snd.fst < (↑n.toNat : Int)
            refine ⟨by first | omega | (dsimp only; omega), ?_⟩ -- (0 : Int) ≤ v_10.snd.snd.fst
            exact by omega -- v_10.snd.snd.fst ≤ (↑n.toNat : Int)
          intro s_31
          intro h21 -- s_31 = clampS (sumR n.toNat v_10.snd.fst v_10.snd.snd.snd v_10.snd.snd.fst.toNat)
          have eC : s_31 = clampS (sumL (lastL n.toNat (List.take v_10.fst.toNat l))) := by rw [h21, sumR_all h9.2.2]
          have eM : v_10.snd.snd.fst = min ((List.take v_10.fst.toNat l).length : Int) n := by have t := h9.2.2.hm; omega
          intro ⟨a22, b22⟩ -- (-4611686018427387904 : Int) ≤ s_31 ∧ s_31 ≤ (4611686018427387904 : Int)
          refine br_intro (fun c23 => ?_) (fun c23 => ?_) -- bif bif v_15 != v_21 then true else e_16 != e_22 then true else (0 : Int) != (0 : Int)
          · -- yes
            simp at c23 -- ¬v_15 = v_21 ∨ ¬e_16 = e_22
            exfalso; omega
          · -- no
            simp at c23 -- v_15 = v_21 ∧ e_16 = e_22
            refine ⟨by exact ⟨by assumption, by assumption⟩, ?_⟩ -- (1 : Int) ≤ n ∧ n ≤ (1024 : Int)
            refine ⟨by first | omega | (dsimp only; omega), ?_⟩ -- (List.take v_10.fst.toNat l).length ≤ (2000 : Nat)
            intro ys_38
            intro h24 -- ys_38 = lastL n.toNat (List.take v_10.fst.toNat l)
            intro h25 -- ys_38.length ≤ (2000 : Nat)
            intro r_41
            intro h26 -- r_41 = true ↔ List.take q_28 (List.drop (0 : Nat) ys_27) = ys_38
            refine br_intro (fun c27 => ?_) (fun c27 => ?_) -- bif bif false then true else !r_41 then true else (0 : Int) != (0 : Int)
            · -- yes
              simp at c27 -- r_41 = false
              refine ⟨by with_reducible rfl, ?_⟩ -- true = true
              refine ⟨?_, ?_⟩
              · -- left
                intro n43
                intro q43 -- n43 = (↑(List.take v_10.fst.toNat l).length : Int)
                refine ⟨by with_reducible rfl, ?_⟩ -- true = true
                -- k (AV.bool false) [] []
                exfalso
                have t := h26.2 (by rw [List.drop_zero, List.take_of_length_le (by omega), eD]; first | rfl | exact Eq.symm ‹_› | assumption)
                rw [c27] at t
                cases t
              refine ⟨?_, ?_⟩
              · -- left
                intro n44
                intro q44 -- n44 = (↑(List.take v_10.fst.toNat l).length : Int)
                refine ⟨by with_reducible rfl, ?_⟩ -- true = true
                -- k (AV.bool false) [] []
                exfalso
                have t := h26.2 (by rw [List.drop_zero, List.take_of_length_le (by omega), eD]; first | rfl | exact Eq.symm ‹_› | assumption)
                rw [c27] at t
                cases t
              refine ⟨?_, ?_⟩
              · -- left
                intro n45
                intro q45 -- n45 = (↑(List.take v_10.fst.toNat l).length : Int)
                refine ⟨by with_reducible rfl, ?_⟩ -- true = true
                -- k (AV.bool false) [] []
                exfalso
                have t := h26.2 (by rw [List.drop_zero, List.take_of_length_le (by omega), eD]; first | rfl | exact Eq.symm ‹_› | assumption)
                rw [c27] at t
                cases t
              intro n46
              intro q46 -- n46 = (↑(List.take v_10.fst.toNat l).length : Int)
              refine ⟨?_, ?_⟩
              · -- left
                refine ⟨by with_reducible rfl, ?_⟩ -- true = true
                -- k (AV.bool false) [] []
                exfalso
                have t := h26.2 (by rw [List.drop_zero, List.take_of_length_le (by omega), eD]; first | rfl | exact Eq.symm ‹_› | assumption)
                rw [c27] at t
                cases t
              refine ⟨by with_reducible rfl, ?_⟩ -- true = true
              -- k (AV.bool false) [] []
              exfalso
              have t := h26.2 (by rw [List.drop_zero, List.take_of_length_le (by omega), eD]; first | rfl | exact Eq.symm ‹_› | assumption)
              rw [c27] at t
              cases t
            · -- no
              simp at c27 -- r_41 = true
              refine ⟨by exact ⟨by assumption, by assumption⟩, ?_⟩ -- (1 : Int) ≤ n ∧ n ≤ (1024 : Int)
              refine ⟨by first | omega | (dsimp only; omega), ?_⟩ -- (List.take v_10.fst.toNat l).length ≤ (2000 : Nat)
              intro s_47
              intro h28 -- s_47 = clampS (sumL (lastL n.toNat (List.take v_10.fst.toNat l)))
              intro ⟨a29, b29⟩ -- (-4611686018427387904 : Int) ≤ s_47 ∧ s_47 ≤ (4611686018427387904 : Int)
              refine ⟨?_, ?_⟩
              · -- left
                refine br_intro (fun c30 => ?_) (fun c30 => ?_) -- bif false then true else s_31 != s_47
                · -- yes
                  simp at c30 -- ¬s_31 = s_47
                  exfalso; omega
                · -- no
                  simp at c30 -- s_31 = s_47
                  refine ⟨?_, ?_⟩
                  · -- left
                    refine ⟨by first | omega | (dsimp only; omega), ?_⟩ -- (1 : Nat) ≤ n.toNat ∧ n.toNat ≤ (1024 : Nat)
                    refine ⟨by first | omega | (dsimp only; omega), ?_⟩ -- v_10.snd.snd.snd.length = n.toNat
                    refine ⟨by first | omega | (dsimp only; omega), ?_⟩ -- (0 : Int) ≤ v_10.snd.fst ∧ v_10.snd.fst < (↑n.toNat : Int)
                    refine ⟨by first | omega | (dsimp only; omega), ?_⟩ -- (0 : Int) ≤ v_10.snd.snd.fst
                    exact by omega -- v_10.snd.snd.fst ≤ (↑n.toNat : Int)
                  intro n51
                  intro q51 -- n51 = (↑(List.take v_10.fst.toNat l).length : Int)
                  refine br_intro (fun c31 => ?_) (fun c31 => ?_) -- bif false then true else !(v_10.snd.snd.fst == (↑n.toNat : Int)) == decide (n51 ≥ n)
                  · -- yes
                    simp at c31 -- ¬(v_10.snd.snd.fst == max n (0 : Int)) = decide (n ≤ n51)
                    -- k (AV.bool false) [] []
                    exfalso
                    apply c31
                    rw [eM, Bool.eq_iff_iff]
                    simp
                    omega
                  · -- no
                    simp at c31 -- (v_10.snd.snd.fst == max n (0 : Int)) = decide (n ≤ n51)
                    refine ⟨?_, ?_⟩
                    · -- left
                      refine ⟨((0 : Int), v_10.snd.fst, v_10.snd.snd.fst, v_10.snd.snd.snd, q_28, ys_27), ?_⟩
                      refine ⟨by first | with_reducible rfl | rfl, ?_⟩ -- n = n
                      refine ⟨by first | with_reducible rfl | rfl, ?_⟩ -- l = l
                      refine ⟨by first | with_reducible rfl | rfl, ?_⟩ -- p = p
                      refine ⟨by show v_10.fst = (↑v_10.fst.toNat : Int); omega, ?_⟩ -- v_10.fst = (↑v_10.fst.toNat : Int)
                      refine ⟨by first | with_reducible rfl | rfl, ?_⟩ -- (0 : Nat) = (0 : Nat)
                      refine ⟨by first | with_reducible rfl | rfl, ?_⟩ -- q_28 = q_28
                      refine ⟨by first | with_reducible rfl | rfl, ?_⟩ -- (0 : Int) = (0 : Int)
                      refine ⟨by first | with_reducible rfl | rfl, ?_⟩ -- (0 : Nat) = (0 : Nat)
                      refine ⟨by first | with_reducible rfl | rfl, ?_⟩ -- n.toNat = n.toNat
                      refine ⟨by first | with_reducible rfl | rfl, ?_⟩ -- v_10.snd.fst = v_10.snd.fst
                      refine ⟨by first | with_reducible rfl | rfl, ?_⟩ -- v_10.snd.snd.fst = v_10.snd.snd.fst
                      refine ⟨by first | with_reducible rfl | rfl, ?_⟩ -- v_10.snd.snd.snd = v_10.snd.snd.snd
                      refine ⟨by first | with_reducible rfl | rfl, ?_⟩ -- n = n
                      refine ⟨by first | with_reducible rfl | rfl, ?_⟩ -- List.take v_10.fst.toNat l = List.take v_10.fst.toNat l
                      refine ⟨by first | with_reducible rfl | rfl, ?_⟩ -- ys_27 = ys_27
                      refine ⟨by first | omega | (dsimp only; omega), ?_⟩ -- (0 : Int) ≤ (0 : Int) ∧ (0 : Int) ≤ (↑q_28 : Int)
                      refine ⟨?_, ?_⟩
                      · -- left
                        refine ⟨by first | omega | (dsimp only; omega), ?_⟩ -- (1 : Nat) ≤ n.toNat ∧ n.toNat ≤ (1024 : Nat)
                        refine ⟨by show v_10.snd.snd.snd.length = n.toNat; omega, ?_⟩ -- v_10.snd.snd.snd.length = n.toNat
                        refine ⟨by first | omega | (dsimp only; omega), ?_⟩ -- (0 : Int) ≤ v_10.snd.fst ∧ v_10.snd.fst < (↑n.toNat : Int)
                        refine ⟨by show (0 : Int) ≤ v_10.snd.snd.fst; omega, ?_⟩ -- (0 : Int) ≤ v_10.snd.snd.fst
                        exact by show v_10.snd.snd.fst ≤ (↑n.toNat : Int); omega -- v_10.snd.snd.fst ≤ (↑n.toNat : Int)
                      refine ⟨by exact h9.2.2, ?_⟩ -- RInv n.toNat v_10.snd.fst v_10.snd.snd.fst v_10.snd.snd.snd (List.take v_10.fst.toNat l)
                      exact by show ys_27.length = q_28; assumption -- ys_27.length = q_28
                    intro v_53
                    intro h32 -- ((0 : Int) ≤ v_53.fst ∧ v_53.fst ≤ (↑v_53.snd.snd.snd.snd.fst : Int)) ∧ (((1 : Nat) ≤ n.toNat ∧ n.toNat ≤ (1024 : Nat)) ∧ v_53.snd.snd.snd.fst.length = n.toNat ∧ ((0 : Int) ≤ v_53.snd.fst ∧ v_53.snd.fst < (↑n.toNat : Int)) ∧ (0 : Int) ≤ v_53.snd.snd.fst ∧ v_53.snd.snd.fst ≤ (↑n.toNat : Int)) ∧ RInv n.toNat v_53.snd.fst v_53.snd.snd.fst v_53.snd.snd.snd.fst (List.take v_10.fst.toNat l) ∧ v_53.snd.snd.snd.snd.snd.length = v_53.snd.snd.snd.snd.fst
                    intro n55
                    intro q55 -- n55 = (↑v_53.snd.snd.snd.snd.fst : Int)
                    intro ⟨l55, u55⟩ -- (-9223372036854775808 : Int) ≤ n55 ∧ n55 ≤ (9223372036854775807 : Int)
                    refine brd (fun c33 => ?_) (fun c33 => ?_) -- decide (v_53.fst < n55)
                    · -- yes
                      refine ⟨by first | omega | (dsimp only; omega), ?_⟩ -- (0 : Int) ≤ v_53.fst
                      refine ⟨by first | omega | (dsimp only; omega), ?_⟩ -- v_53.fst < (↑v_53.snd.snd.snd.snd.fst : Int)
                      refine ⟨by first | omega | (dsimp only; omega), ?_⟩ -- (0 : Nat) + v_53.fst.toNat < v_53.snd.snd.snd.snd.snd.length
                      intro z58
                      intro qz58 -- z58 = v_53.snd.snd.snd.snd.snd.set ((0 : Nat) + v_53.fst.toNat) (77 : Int)
                      intro n60
                      intro q60 -- n60 = IntKind.i64.wrap (v_53.fst + (1 : Int))
                      rw [IntKind.wrap_i64] at q60
                      intro ⟨l60, u60⟩ -- (-9223372036854775808 : Int) ≤ n60 ∧ n60 ≤ (9223372036854775807 : Int)
                      refine ⟨(n60, v_53.snd.fst, v_53.snd.snd.fst, v_53.snd.snd.snd.fst, v_53.snd.snd.snd.snd.fst, z58), ?_⟩
                      refine ⟨by first | with_reducible rfl | rfl, ?_⟩ -- n = n
                      refine ⟨by first | with_reducible rfl | rfl, ?_⟩ -- l = l
                      refine ⟨by first | with_reducible rfl | rfl, ?_⟩ -- p = p
                      refine ⟨by first | with_reducible rfl | rfl, ?_⟩ -- (↑v_10.fst.toNat : Int) = (↑v_10.fst.toNat : Int)
                      refine ⟨by first | with_reducible rfl | rfl, ?_⟩ -- (0 : Nat) = (0 : Nat)
                      refine ⟨by first | with_reducible rfl | rfl, ?_⟩ -- v_53.snd.snd.snd.snd.fst = v_53.snd.snd.snd.snd.fst
                      refine ⟨by first | with_reducible rfl | rfl, ?_⟩ -- n60 = n60
                      refine ⟨by first | with_reducible rfl | rfl, ?_⟩ -- (0 : Nat) = (0 : Nat)
                      refine ⟨by first | with_reducible rfl | rfl, ?_⟩ -- n.toNat = n.toNat
                      refine ⟨by first | with_reducible rfl | rfl, ?_⟩ -- v_53.snd.fst = v_53.snd.fst
                      refine ⟨by first | with_reducible rfl | rfl, ?_⟩ -- v_53.snd.snd.fst = v_53.snd.snd.fst
                      refine ⟨by first | with_reducible rfl | rfl, ?_⟩ -- v_53.snd.snd.snd.fst = v_53.snd.snd.snd.fst
                      refine ⟨by first | with_reducible rfl | rfl, ?_⟩ -- n = n
                      refine ⟨by first | with_reducible rfl | rfl, ?_⟩ -- List.take v_10.fst.toNat l = List.take v_10.fst.toNat l
                      refine ⟨by first | with_reducible rfl | rfl, ?_⟩ -- z58 = z58
                      refine ⟨?_, ?_⟩
                      · -- left
                        refine ⟨by first | omega | (dsimp only; omega), ?_⟩ -- (0 : Int) ≤ n60 ∧ n60 ≤ (↑v_53.snd.snd.snd.snd.fst : Int)
                        refine ⟨?_, ?_⟩
                        · -- left
                          refine ⟨by first | omega | (dsimp only; omega), ?_⟩ -- (1 : Nat) ≤ n.toNat ∧ n.toNat ≤ (1024 : Nat)
                          refine ⟨by show v_53.snd.snd.snd.fst.length = n.toNat; omega, ?_⟩ -- v_53.snd.snd.snd.fst.length = n.toNat
                          refine ⟨by first | omega | (dsimp only; omega), ?_⟩ -- (0 : Int) ≤ v_53.snd.fst ∧ v_53.snd.fst < (↑n.toNat : Int)
                          refine ⟨by show (0 : Int) ≤ v_53.snd.snd.fst; omega, ?_⟩ -- (0 : Int) ≤ v_53.snd.snd.fst
                          exact by show v_53.snd.snd.fst ≤ (↑n.toNat : Int); omega -- v_53.snd.snd.fst ≤ (↑n.toNat : Int)
                        have h34 : RInv n.toNat v_53.snd.fst v_53.snd.snd.fst v_53.snd.snd.snd.fst (List.take v_10.fst.toNat l) := by
                          exact h32.2.2.1
                        refine ⟨h34, ?_⟩
                        -- z58.length = v_53.snd.snd.snd.snd.fst
                        rw [qz58]; simp; omega
                      exact by show ((↑v_53.snd.snd.snd.snd.fst : Int) - n60).toNat < ((↑v_53.snd.snd.snd.snd.fst : Int) - v_53.fst).toNat; omega -- ((↑v_53.snd.snd.snd.snd.fst : Int) - n60).toNat < ((↑v_53.snd.snd.snd.snd.fst : Int) - v_53.fst).toNat
                    · -- no
                      intro n63
                      intro q63 -- n63 = (↑l.length : Int)
                      intro ⟨l63, u63⟩ -- (-9223372036854775808 : Int) ≤ n63 ∧ n63 ≤ (9223372036854775807 : Int)
                      refine brd (fun c35 => ?_) (fun c35 => ?_) -- decide ((↑v_10.fst.toNat : Int) < n63)
                      · -- yes
                        refine ⟨by first | omega | (dsimp only; omega), ?_⟩ -- (0 : Int) ≤ (↑v_10.fst.toNat : Int)
                        refine ⟨by first | omega | (dsimp only; omega), ?_⟩ -- (↑v_10.fst.toNat : Int) < (↑l.length : Int)
                        intro n66
                        intro q66 -- n66 = l.getD (↑v_10.fst.toNat : Int).toNat (0 : Int)
                        intro ⟨l66, u66⟩ -- (-9223372036854775808 : Int) ≤ n66 ∧ n66 ≤ (9223372036854775807 : Int)
                        refine ⟨?_, ?_⟩
                        · -- left
                          refine ⟨by first | omega | (dsimp only; omega), ?_⟩ -- (1 : Nat) ≤ n.toNat ∧ n.toNat ≤ (1024 : Nat)
                          refine ⟨by first | omega | (dsimp only; omega), ?_⟩ -- v_53.snd.snd.snd.fst.length = n.toNat
                          refine ⟨by first | omega | (dsimp only; omega), ?_⟩ -- (0 : Int) ≤ v_53.snd.fst ∧ v_53.snd.fst < (↑n.toNat : Int)
                          refine ⟨by first | omega | (dsimp only; omega), ?_⟩ -- (0 : Int) ≤ v_53.snd.snd.fst
                          exact by omega -- v_53.snd.snd.fst ≤ (↑n.toNat : Int)
                        refine ⟨by exact ⟨by assumption, by assumption⟩, ?_⟩ -- (-9223372036854775808 : Int) ≤ n66 ∧ n66 ≤ (9223372036854775807 : Int)
                        intro a1_69
                        intro m1_70
                        intro ys_71
                        intro h36 -- a1_69 = (v_53.snd.fst + (1 : Int)) % (↑n.toNat : Int)
                        intro h37 -- m1_70 = min (v_53.snd.snd.fst + (1 : Int)) (↑n.toNat : Int)
                        intro h38 -- ys_71 = v_53.snd.snd.snd.fst.set v_53.snd.fst.toNat n66
                        intro h39 -- ((1 : Nat) ≤ n.toNat ∧ n.toNat ≤ (1024 : Nat)) ∧ ys_71.length = n.toNat ∧ ((0 : Int) ≤ a1_69 ∧ a1_69 < (↑n.toNat : Int)) ∧ (0 : Int) ≤ m1_70 ∧ m1_70 ≤ (↑n.toNat : Int)
                        refine ⟨by first | omega | (dsimp only; omega), ?_⟩ -- (0 : Int) ≤ (↑v_10.fst.toNat : Int)
                        refine ⟨by first | omega | (dsimp only; omega), ?_⟩ -- (↑v_10.fst.toNat : Int) < (↑l.length : Int)
                        intro n76
                        intro q76 -- n76 = l.getD (↑v_10.fst.toNat : Int).toNat (0 : Int)
                        intro ⟨l76, u76⟩ -- (-9223372036854775808 : Int) ≤ n76 ∧ n76 ≤ (9223372036854775807 : Int)
                        refine ⟨by exact ⟨by assumption, by assumption⟩, ?_⟩ -- (-9223372036854775808 : Int) ≤ n ∧ n ≤ (9223372036854775807 : Int)
                        refine ⟨by first | omega | (dsimp only; omega), ?_⟩ -- (List.take v_10.fst.toNat l).length ≤ (2000 : Nat)
                        refine ⟨by exact ⟨by assumption, by assumption⟩, ?_⟩ -- (-9223372036854775808 : Int) ≤ n76 ∧ n76 ≤ (9223372036854775807 : Int)
                        intro n79
                        intro q79 -- n79 = IntKind.i64.wrap ((↑v_10.fst.toNat : Int) + (1 : Int))
                        rw [IntKind.wrap_i64] at q79
                        intro ⟨l79, u79⟩ -- (-9223372036854775808 : Int) ≤ n79 ∧ n79 ≤ (9223372036854775807 : Int)
                        refine ⟨(n79, a1_69, m1_70, ys_71), ?_⟩
                        refine ⟨by first | with_reducible rfl | rfl, ?_⟩ -- n = n
                        refine ⟨by first | with_reducible rfl | rfl, ?_⟩ -- l = l
                        refine ⟨by first | with_reducible rfl | rfl, ?_⟩ -- p = p
                        refine ⟨by first | with_reducible rfl | rfl, ?_⟩ -- n79 = n79
                        refine ⟨by first | with_reducible rfl | rfl, ?_⟩ -- (0 : Nat) = (0 : Nat)
                        refine ⟨by first | with_reducible rfl | rfl, ?_⟩ -- n.toNat = n.toNat
                        refine ⟨by first | with_reducible rfl | rfl, ?_⟩ -- a1_69 = a1_69
                        refine ⟨by first | with_reducible rfl | rfl, ?_⟩ -- m1_70 = m1_70
                        refine ⟨by first | with_reducible rfl | rfl, ?_⟩ -- ys_71 = ys_71
                        refine ⟨by first | with_reducible rfl | rfl, ?_⟩ -- n = n
                        have h40 : List.take v_10.fst.toNat l ++ [n76] = List.take n79.toNat l := by
                          rw [show n79.toNat = (v_10.fst + 1).toNat by omega, take_next (by omega) (by omega), q76, Int.toNat_natCast]
                        refine ⟨h40, ?_⟩
                        refine ⟨?_, ?_⟩
                        · -- left
                          refine ⟨by first | omega | (dsimp only; omega), ?_⟩ -- (0 : Int) ≤ n79 ∧ n79 ≤ (↑l.length : Int) + (1 : Int)
                          refine ⟨?_, ?_⟩
                          · -- left
                            refine ⟨by first | omega | (dsimp only; omega), ?_⟩ -- (1 : Nat) ≤ n.toNat ∧ n.toNat ≤ (1024 : Nat)
                            refine ⟨by show ys_71.length = n.toNat; omega, ?_⟩ -- ys_71.length = n.toNat
                            refine ⟨by first | omega | (dsimp only; omega), ?_⟩ -- (0 : Int) ≤ a1_69 ∧ a1_69 < (↑n.toNat : Int)
                            refine ⟨by show (0 : Int) ≤ m1_70; omega, ?_⟩ -- (0 : Int) ≤ m1_70
                            exact by show m1_70 ≤ (↑n.toNat : Int); omega -- m1_70 ≤ (↑n.toNat : Int)
                          -- RInv n.toNat a1_69 m1_70 ys_71 (List.take n79.toNat l)
                          rw [h36, h37, h38, ← h40, show n76 = n66 by rw [q76, q66]]
                          exact rinv_push h32.2.2.1 n66
                        exact by show ((↑l.length : Int) + (1 : Int) - n79).toNat < ((↑l.length : Int) + (1 : Int) - v_10.fst).toNat; omega -- ((↑l.length : Int) + (1 : Int) - n79).toNat < ((↑l.length : Int) + (1 : Int) - v_10.fst).toNat
                      · -- no
                        intro n82
                        intro q82 -- n82 = IntKind.i64.wrap ((↑v_10.fst.toNat : Int) + (1 : Int))
                        rw [IntKind.wrap_i64] at q82
                        intro ⟨l82, u82⟩ -- (-9223372036854775808 : Int) ≤ n82 ∧ n82 ≤ (9223372036854775807 : Int)
                        refine ⟨(n82, v_53.snd.fst, v_53.snd.snd.fst, v_53.snd.snd.snd.fst), ?_⟩
                        refine ⟨by first | with_reducible rfl | rfl, ?_⟩ -- n = n
                        refine ⟨by first | with_reducible rfl | rfl, ?_⟩ -- l = l
                        refine ⟨by first | with_reducible rfl | rfl, ?_⟩ -- p = p
                        refine ⟨by first | with_reducible rfl | rfl, ?_⟩ -- n82 = n82
                        refine ⟨by first | with_reducible rfl | rfl, ?_⟩ -- (0 : Nat) = (0 : Nat)
                        refine ⟨by first | with_reducible rfl | rfl, ?_⟩ -- n.toNat = n.toNat
                        refine ⟨by first | with_reducible rfl | rfl, ?_⟩ -- v_53.snd.fst = v_53.snd.fst
                        refine ⟨by first | with_reducible rfl | rfl, ?_⟩ -- v_53.snd.snd.fst = v_53.snd.snd.fst
                        refine ⟨by first | with_reducible rfl | rfl, ?_⟩ -- v_53.snd.snd.snd.fst = v_53.snd.snd.snd.fst
                        refine ⟨by first | with_reducible rfl | rfl, ?_⟩ -- n = n
                        have h41 : List.take v_10.fst.toNat l = List.take n82.toNat l := by
                          rw [List.take_of_length_le (by omega), List.take_of_length_le (by omega)]
                        refine ⟨h41, ?_⟩
                        refine ⟨?_, ?_⟩
                        · -- left
                          refine ⟨by first | omega | (dsimp only; omega), ?_⟩ -- (0 : Int) ≤ n82 ∧ n82 ≤ (↑l.length : Int) + (1 : Int)
                          refine ⟨?_, ?_⟩
                          · -- left
                            refine ⟨by first | omega | (dsimp only; omega), ?_⟩ -- (1 : Nat) ≤ n.toNat ∧ n.toNat ≤ (1024 : Nat)
                            refine ⟨by show v_53.snd.snd.snd.fst.length = n.toNat; omega, ?_⟩ -- v_53.snd.snd.snd.fst.length = n.toNat
                            refine ⟨by first | omega | (dsimp only; omega), ?_⟩ -- (0 : Int) ≤ v_53.snd.fst ∧ v_53.snd.fst < (↑n.toNat : Int)
                            refine ⟨by show (0 : Int) ≤ v_53.snd.snd.fst; omega, ?_⟩ -- (0 : Int) ≤ v_53.snd.snd.fst
                            exact by show v_53.snd.snd.fst ≤ (↑n.toNat : Int); omega -- v_53.snd.snd.fst ≤ (↑n.toNat : Int)
                          -- RInv n.toNat v_53.snd.fst v_53.snd.snd.fst v_53.snd.snd.snd.fst (List.take n82.toNat l)
                          rw [← h41]; exact h32.2.2.1
                        exact by show ((↑l.length : Int) + (1 : Int) - n82).toNat < ((↑l.length : Int) + (1 : Int) - v_10.fst).toNat; omega -- ((↑l.length : Int) + (1 : Int) - n82).toNat < ((↑l.length : Int) + (1 : Int) - v_10.fst).toNat
              refine ⟨?_, ?_⟩
              · -- left
                refine br_intro (fun c42 => ?_) (fun c42 => ?_) -- bif false then true else s_31 != s_47
                · -- yes
                  simp at c42 -- ¬s_31 = s_47
                  exfalso; omega
                · -- no
                  simp at c42 -- s_31 = s_47
                  refine ⟨?_, ?_⟩
                  · -- left
                    refine ⟨by first | omega | (dsimp only; omega), ?_⟩ -- (1 : Nat) ≤ n.toNat ∧ n.toNat ≤ (1024 : Nat)
                    refine ⟨by first | omega | (dsimp only; omega), ?_⟩ -- v_10.snd.snd.snd.length = n.toNat
                    refine ⟨by first | omega | (dsimp only; omega), ?_⟩ -- (0 : Int) ≤ v_10.snd.fst ∧ v_10.snd.fst < (↑n.toNat : Int)
                    refine ⟨by first | omega | (dsimp only; omega), ?_⟩ -- (0 : Int) ≤ v_10.snd.snd.fst
                    exact by omega -- v_10.snd.snd.fst ≤ (↑n.toNat : Int)
                  intro n86
                  intro q86 -- n86 = (↑(List.take v_10.fst.toNat l).length : Int)
                  refine br_intro (fun c43 => ?_) (fun c43 => ?_) -- bif false then true else !(v_10.snd.snd.fst == (↑n.toNat : Int)) == decide (n86 ≥ n)
                  · -- yes
                    simp at c43 -- ¬(v_10.snd.snd.fst == max n (0 : Int)) = decide (n ≤ n86)
                    -- k (AV.bool false) [] []
                    exfalso
                    apply c43
                    rw [eM, Bool.eq_iff_iff]
                    simp
                    omega
                  · -- no
                    simp at c43 -- (v_10.snd.snd.fst == max n (0 : Int)) = decide (n ≤ n86)
                    refine ⟨?_, ?_⟩
                    · -- left
                      refine ⟨((0 : Int), v_10.snd.fst, v_10.snd.snd.fst, v_10.snd.snd.snd, q_28, ys_27), ?_⟩
                      refine ⟨by first | with_reducible rfl | rfl, ?_⟩ -- n = n
                      refine ⟨by first | with_reducible rfl | rfl, ?_⟩ -- l = l
                      refine ⟨by first | with_reducible rfl | rfl, ?_⟩ -- p = p
                      refine ⟨by show v_10.fst = (↑v_10.fst.toNat : Int); omega, ?_⟩ -- v_10.fst = (↑v_10.fst.toNat : Int)
                      refine ⟨by first | with_reducible rfl | rfl, ?_⟩ -- (0 : Nat) = (0 : Nat)
                      refine ⟨by first | with_reducible rfl | rfl, ?_⟩ -- q_28 = q_28
                      refine ⟨by first | with_reducible rfl | rfl, ?_⟩ -- (0 : Int) = (0 : Int)
                      refine ⟨by first | with_reducible rfl | rfl, ?_⟩ -- (0 : Nat) = (0 : Nat)
                      refine ⟨by first | with_reducible rfl | rfl, ?_⟩ -- n.toNat = n.toNat
                      refine ⟨by first | with_reducible rfl | rfl, ?_⟩ -- v_10.snd.fst = v_10.snd.fst
                      refine ⟨by first | with_reducible rfl | rfl, ?_⟩ -- v_10.snd.snd.fst = v_10.snd.snd.fst
                      refine ⟨by first | with_reducible rfl | rfl, ?_⟩ -- v_10.snd.snd.snd = v_10.snd.snd.snd
                      refine ⟨by first | with_reducible rfl | rfl, ?_⟩ -- n = n
                      refine ⟨by first | with_reducible rfl | rfl, ?_⟩ -- List.take v_10.fst.toNat l = List.take v_10.fst.toNat l
                      refine ⟨by first | with_reducible rfl | rfl, ?_⟩ -- ys_27 = ys_27
                      refine ⟨by first | omega | (dsimp only; omega), ?_⟩ -- (0 : Int) ≤ (0 : Int) ∧ (0 : Int) ≤ (↑q_28 : Int)
                      refine ⟨?_, ?_⟩
                      · -- left
                        refine ⟨by first | omega | (dsimp only; omega), ?_⟩ -- (1 : Nat) ≤ n.toNat ∧ n.toNat ≤ (1024 : Nat)
                        refine ⟨by show v_10.snd.snd.snd.length = n.toNat; omega, ?_⟩ -- v_10.snd.snd.snd.length = n.toNat
                        refine ⟨by first | omega | (dsimp only; omega), ?_⟩ -- (0 : Int) ≤ v_10.snd.fst ∧ v_10.snd.fst < (↑n.toNat : Int)
                        refine ⟨by show (0 : Int) ≤ v_10.snd.snd.fst; omega, ?_⟩ -- (0 : Int) ≤ v_10.snd.snd.fst
                        exact by show v_10.snd.snd.fst ≤ (↑n.toNat : Int); omega -- v_10.snd.snd.fst ≤ (↑n.toNat : Int)
                      refine ⟨by exact h9.2.2, ?_⟩ -- RInv n.toNat v_10.snd.fst v_10.snd.snd.fst v_10.snd.snd.snd (List.take v_10.fst.toNat l)
                      exact by show ys_27.length = q_28; assumption -- ys_27.length = q_28
                    intro v_88
                    intro h44 -- ((0 : Int) ≤ v_88.fst ∧ v_88.fst ≤ (↑v_88.snd.snd.snd.snd.fst : Int)) ∧ (((1 : Nat) ≤ n.toNat ∧ n.toNat ≤ (1024 : Nat)) ∧ v_88.snd.snd.snd.fst.length = n.toNat ∧ ((0 : Int) ≤ v_88.snd.fst ∧ v_88.snd.fst < (↑n.toNat : Int)) ∧ (0 : Int) ≤ v_88.snd.snd.fst ∧ v_88.snd.snd.fst ≤ (↑n.toNat : Int)) ∧ RInv n.toNat v_88.snd.fst v_88.snd.snd.fst v_88.snd.snd.snd.fst (List.take v_10.fst.toNat l) ∧ v_88.snd.snd.snd.snd.snd.length = v_88.snd.snd.snd.snd.fst
                    intro n90
                    intro q90 -- n90 = (↑v_88.snd.snd.snd.snd.fst : Int)
                    intro ⟨l90, u90⟩ -- (-9223372036854775808 : Int) ≤ n90 ∧ n90 ≤ (9223372036854775807 : Int)
                    refine brd (fun c45 => ?_) (fun c45 => ?_) -- decide (v_88.fst < n90)
                    · -- yes
                      refine ⟨by first | omega | (dsimp only; omega), ?_⟩ -- (0 : Int) ≤ v_88.fst
                      refine ⟨by first | omega | (dsimp only; omega), ?_⟩ -- v_88.fst < (↑v_88.snd.snd.snd.snd.fst : Int)
                      refine ⟨by first | omega | (dsimp only; omega), ?_⟩ -- (0 : Nat) + v_88.fst.toNat < v_88.snd.snd.snd.snd.snd.length
                      intro z93
                      intro qz93 -- z93 = v_88.snd.snd.snd.snd.snd.set ((0 : Nat) + v_88.fst.toNat) (77 : Int)
                      intro n95
                      intro q95 -- n95 = IntKind.i64.wrap (v_88.fst + (1 : Int))
                      rw [IntKind.wrap_i64] at q95
                      intro ⟨l95, u95⟩ -- (-9223372036854775808 : Int) ≤ n95 ∧ n95 ≤ (9223372036854775807 : Int)
                      refine ⟨(n95, v_88.snd.fst, v_88.snd.snd.fst, v_88.snd.snd.snd.fst, v_88.snd.snd.snd.snd.fst, z93), ?_⟩
                      refine ⟨by first | with_reducible rfl | rfl, ?_⟩ -- n = n
                      refine ⟨by first | with_reducible rfl | rfl, ?_⟩ -- l = l
                      refine ⟨by first | with_reducible rfl | rfl, ?_⟩ -- p = p
                      refine ⟨by first | with_reducible rfl | rfl, ?_⟩ -- (↑v_10.fst.toNat : Int) = (↑v_10.fst.toNat : Int)
                      refine ⟨by first | with_reducible rfl | rfl, ?_⟩ -- (0 : Nat) = (0 : Nat)
                      refine ⟨by first | with_reducible rfl | rfl, ?_⟩ -- v_88.snd.snd.snd.snd.fst = v_88.snd.snd.snd.snd.fst
                      refine ⟨by first | with_reducible rfl | rfl, ?_⟩ -- n95 = n95
                      refine ⟨by first | with_reducible rfl | rfl, ?_⟩ -- (0 : Nat) = (0 : Nat)
                      refine ⟨by first | with_reducible rfl | rfl, ?_⟩ -- n.toNat = n.toNat
                      refine ⟨by first | with_reducible rfl | rfl, ?_⟩ -- v_88.snd.fst = v_88.snd.fst
                      refine ⟨by first | with_reducible rfl | rfl, ?_⟩ -- v_88.snd.snd.fst = v_88.snd.snd.fst
                      refine ⟨by first | with_reducible rfl | rfl, ?_⟩ -- v_88.snd.snd.snd.fst = v_88.snd.snd.snd.fst
                      refine ⟨by first | with_reducible rfl | rfl, ?_⟩ -- n = n
                      refine ⟨by first | with_reducible rfl | rfl, ?_⟩ -- List.take v_10.fst.toNat l = List.take v_10.fst.toNat l
                      refine ⟨by first | with_reducible rfl | rfl, ?_⟩ -- z93 = z93
                      refine ⟨?_, ?_⟩
                      · -- left
                        refine ⟨by first | omega | (dsimp only; omega), ?_⟩ -- (0 : Int) ≤ n95 ∧ n95 ≤ (↑v_88.snd.snd.snd.snd.fst : Int)
                        refine ⟨?_, ?_⟩
                        · -- left
                          refine ⟨by first | omega | (dsimp only; omega), ?_⟩ -- (1 : Nat) ≤ n.toNat ∧ n.toNat ≤ (1024 : Nat)
                          refine ⟨by show v_88.snd.snd.snd.fst.length = n.toNat; omega, ?_⟩ -- v_88.snd.snd.snd.fst.length = n.toNat
                          refine ⟨by first | omega | (dsimp only; omega), ?_⟩ -- (0 : Int) ≤ v_88.snd.fst ∧ v_88.snd.fst < (↑n.toNat : Int)
                          refine ⟨by show (0 : Int) ≤ v_88.snd.snd.fst; omega, ?_⟩ -- (0 : Int) ≤ v_88.snd.snd.fst
                          exact by show v_88.snd.snd.fst ≤ (↑n.toNat : Int); omega -- v_88.snd.snd.fst ≤ (↑n.toNat : Int)
                        have h46 : RInv n.toNat v_88.snd.fst v_88.snd.snd.fst v_88.snd.snd.snd.fst (List.take v_10.fst.toNat l) := by
                          exact h44.2.2.1
                        refine ⟨h46, ?_⟩
                        -- z93.length = v_88.snd.snd.snd.snd.fst
                        rw [qz93]; simp; omega
                      exact by show ((↑v_88.snd.snd.snd.snd.fst : Int) - n95).toNat < ((↑v_88.snd.snd.snd.snd.fst : Int) - v_88.fst).toNat; omega -- ((↑v_88.snd.snd.snd.snd.fst : Int) - n95).toNat < ((↑v_88.snd.snd.snd.snd.fst : Int) - v_88.fst).toNat
                    · -- no
                      intro n98
                      intro q98 -- n98 = (↑l.length : Int)
                      intro ⟨l98, u98⟩ -- (-9223372036854775808 : Int) ≤ n98 ∧ n98 ≤ (9223372036854775807 : Int)
                      refine brd (fun c47 => ?_) (fun c47 => ?_) -- decide ((↑v_10.fst.toNat : Int) < n98)
                      · -- yes
                        refine ⟨by first | omega | (dsimp only; omega), ?_⟩ -- (0 : Int) ≤ (↑v_10.fst.toNat : Int)
                        refine ⟨by first | omega | (dsimp only; omega), ?_⟩ -- (↑v_10.fst.toNat : Int) < (↑l.length : Int)
                        intro n101
                        intro q101 -- n101 = l.getD (↑v_10.fst.toNat : Int).toNat (0 : Int)
                        intro ⟨l101, u101⟩ -- (-9223372036854775808 : Int) ≤ n101 ∧ n101 ≤ (9223372036854775807 : Int)
                        refine ⟨?_, ?_⟩
                        · -- left
                          refine ⟨by first | omega | (dsimp only; omega), ?_⟩ -- (1 : Nat) ≤ n.toNat ∧ n.toNat ≤ (1024 : Nat)
                          refine ⟨by first | omega | (dsimp only; omega), ?_⟩ -- v_88.snd.snd.snd.fst.length = n.toNat
                          refine ⟨by first | omega | (dsimp only; omega), ?_⟩ -- (0 : Int) ≤ v_88.snd.fst ∧ v_88.snd.fst < (↑n.toNat : Int)
                          refine ⟨by first | omega | (dsimp only; omega), ?_⟩ -- (0 : Int) ≤ v_88.snd.snd.fst
                          exact by omega -- v_88.snd.snd.fst ≤ (↑n.toNat : Int)
                        refine ⟨by exact ⟨by assumption, by assumption⟩, ?_⟩ -- (-9223372036854775808 : Int) ≤ n101 ∧ n101 ≤ (9223372036854775807 : Int)
                        intro a1_104
                        intro m1_105
                        intro ys_106
                        intro h48 -- a1_104 = (v_88.snd.fst + (1 : Int)) % (↑n.toNat : Int)
                        intro h49 -- m1_105 = min (v_88.snd.snd.fst + (1 : Int)) (↑n.toNat : Int)
                        intro h50 -- ys_106 = v_88.snd.snd.snd.fst.set v_88.snd.fst.toNat n101
                        intro h51 -- ((1 : Nat) ≤ n.toNat ∧ n.toNat ≤ (1024 : Nat)) ∧ ys_106.length = n.toNat ∧ ((0 : Int) ≤ a1_104 ∧ a1_104 < (↑n.toNat : Int)) ∧ (0 : Int) ≤ m1_105 ∧ m1_105 ≤ (↑n.toNat : Int)
                        refine ⟨by first | omega | (dsimp only; omega), ?_⟩ -- (0 : Int) ≤ (↑v_10.fst.toNat : Int)
                        refine ⟨by first | omega | (dsimp only; omega), ?_⟩ -- (↑v_10.fst.toNat : Int) < (↑l.length : Int)
                        intro n111
                        intro q111 -- n111 = l.getD (↑v_10.fst.toNat : Int).toNat (0 : Int)
                        intro ⟨l111, u111⟩ -- (-9223372036854775808 : Int) ≤ n111 ∧ n111 ≤ (9223372036854775807 : Int)
                        refine ⟨by exact ⟨by assumption, by assumption⟩, ?_⟩ -- (-9223372036854775808 : Int) ≤ n ∧ n ≤ (9223372036854775807 : Int)
                        refine ⟨by first | omega | (dsimp only; omega), ?_⟩ -- (List.take v_10.fst.toNat l).length ≤ (2000 : Nat)
                        refine ⟨by exact ⟨by assumption, by assumption⟩, ?_⟩ -- (-9223372036854775808 : Int) ≤ n111 ∧ n111 ≤ (9223372036854775807 : Int)
                        intro n114
                        intro q114 -- n114 = IntKind.i64.wrap ((↑v_10.fst.toNat : Int) + (1 : Int))
                        rw [IntKind.wrap_i64] at q114
                        intro ⟨l114, u114⟩ -- (-9223372036854775808 : Int) ≤ n114 ∧ n114 ≤ (9223372036854775807 : Int)
                        refine ⟨(n114, a1_104, m1_105, ys_106), ?_⟩
                        refine ⟨by first | with_reducible rfl | rfl, ?_⟩ -- n = n
                        refine ⟨by first | with_reducible rfl | rfl, ?_⟩ -- l = l
                        refine ⟨by first | with_reducible rfl | rfl, ?_⟩ -- p = p
                        refine ⟨by first | with_reducible rfl | rfl, ?_⟩ -- n114 = n114
                        refine ⟨by first | with_reducible rfl | rfl, ?_⟩ -- (0 : Nat) = (0 : Nat)
                        refine ⟨by first | with_reducible rfl | rfl, ?_⟩ -- n.toNat = n.toNat
                        refine ⟨by first | with_reducible rfl | rfl, ?_⟩ -- a1_104 = a1_104
                        refine ⟨by first | with_reducible rfl | rfl, ?_⟩ -- m1_105 = m1_105
                        refine ⟨by first | with_reducible rfl | rfl, ?_⟩ -- ys_106 = ys_106
                        refine ⟨by first | with_reducible rfl | rfl, ?_⟩ -- n = n
                        have h52 : List.take v_10.fst.toNat l ++ [n111] = List.take n114.toNat l := by
                          rw [show n114.toNat = (v_10.fst + 1).toNat by omega, take_next (by omega) (by omega), q111, Int.toNat_natCast]
                        refine ⟨h52, ?_⟩
                        refine ⟨?_, ?_⟩
                        · -- left
                          refine ⟨by first | omega | (dsimp only; omega), ?_⟩ -- (0 : Int) ≤ n114 ∧ n114 ≤ (↑l.length : Int) + (1 : Int)
                          refine ⟨?_, ?_⟩
                          · -- left
                            refine ⟨by first | omega | (dsimp only; omega), ?_⟩ -- (1 : Nat) ≤ n.toNat ∧ n.toNat ≤ (1024 : Nat)
                            refine ⟨by show ys_106.length = n.toNat; omega, ?_⟩ -- ys_106.length = n.toNat
                            refine ⟨by first | omega | (dsimp only; omega), ?_⟩ -- (0 : Int) ≤ a1_104 ∧ a1_104 < (↑n.toNat : Int)
                            refine ⟨by show (0 : Int) ≤ m1_105; omega, ?_⟩ -- (0 : Int) ≤ m1_105
                            exact by show m1_105 ≤ (↑n.toNat : Int); omega -- m1_105 ≤ (↑n.toNat : Int)
                          -- RInv n.toNat a1_104 m1_105 ys_106 (List.take n114.toNat l)
                          rw [h48, h49, h50, ← h52, show n111 = n101 by rw [q111, q101]]
                          exact rinv_push h44.2.2.1 n101
                        exact by show ((↑l.length : Int) + (1 : Int) - n114).toNat < ((↑l.length : Int) + (1 : Int) - v_10.fst).toNat; omega -- ((↑l.length : Int) + (1 : Int) - n114).toNat < ((↑l.length : Int) + (1 : Int) - v_10.fst).toNat
                      · -- no
                        intro n117
                        intro q117 -- n117 = IntKind.i64.wrap ((↑v_10.fst.toNat : Int) + (1 : Int))
                        rw [IntKind.wrap_i64] at q117
                        intro ⟨l117, u117⟩ -- (-9223372036854775808 : Int) ≤ n117 ∧ n117 ≤ (9223372036854775807 : Int)
                        refine ⟨(n117, v_88.snd.fst, v_88.snd.snd.fst, v_88.snd.snd.snd.fst), ?_⟩
                        refine ⟨by first | with_reducible rfl | rfl, ?_⟩ -- n = n
                        refine ⟨by first | with_reducible rfl | rfl, ?_⟩ -- l = l
                        refine ⟨by first | with_reducible rfl | rfl, ?_⟩ -- p = p
                        refine ⟨by first | with_reducible rfl | rfl, ?_⟩ -- n117 = n117
                        refine ⟨by first | with_reducible rfl | rfl, ?_⟩ -- (0 : Nat) = (0 : Nat)
                        refine ⟨by first | with_reducible rfl | rfl, ?_⟩ -- n.toNat = n.toNat
                        refine ⟨by first | with_reducible rfl | rfl, ?_⟩ -- v_88.snd.fst = v_88.snd.fst
                        refine ⟨by first | with_reducible rfl | rfl, ?_⟩ -- v_88.snd.snd.fst = v_88.snd.snd.fst
                        refine ⟨by first | with_reducible rfl | rfl, ?_⟩ -- v_88.snd.snd.snd.fst = v_88.snd.snd.snd.fst
                        refine ⟨by first | with_reducible rfl | rfl, ?_⟩ -- n = n
                        have h53 : List.take v_10.fst.toNat l = List.take n117.toNat l := by
                          rw [List.take_of_length_le (by omega), List.take_of_length_le (by omega)]
                        refine ⟨h53, ?_⟩
                        refine ⟨?_, ?_⟩
                        · -- left
                          refine ⟨by first | omega | (dsimp only; omega), ?_⟩ -- (0 : Int) ≤ n117 ∧ n117 ≤ (↑l.length : Int) + (1 : Int)
                          refine ⟨?_, ?_⟩
                          · -- left
                            refine ⟨by first | omega | (dsimp only; omega), ?_⟩ -- (1 : Nat) ≤ n.toNat ∧ n.toNat ≤ (1024 : Nat)
                            refine ⟨by show v_88.snd.snd.snd.fst.length = n.toNat; omega, ?_⟩ -- v_88.snd.snd.snd.fst.length = n.toNat
                            refine ⟨by first | omega | (dsimp only; omega), ?_⟩ -- (0 : Int) ≤ v_88.snd.fst ∧ v_88.snd.fst < (↑n.toNat : Int)
                            refine ⟨by show (0 : Int) ≤ v_88.snd.snd.fst; omega, ?_⟩ -- (0 : Int) ≤ v_88.snd.snd.fst
                            exact by show v_88.snd.snd.fst ≤ (↑n.toNat : Int); omega -- v_88.snd.snd.fst ≤ (↑n.toNat : Int)
                          -- RInv n.toNat v_88.snd.fst v_88.snd.snd.fst v_88.snd.snd.snd.fst (List.take n117.toNat l)
                          rw [← h53]; exact h44.2.2.1
                        exact by show ((↑l.length : Int) + (1 : Int) - n117).toNat < ((↑l.length : Int) + (1 : Int) - v_10.fst).toNat; omega -- ((↑l.length : Int) + (1 : Int) - n117).toNat < ((↑l.length : Int) + (1 : Int) - v_10.fst).toNat
              refine ⟨?_, ?_⟩
              · -- left
                refine br_intro (fun c54 => ?_) (fun c54 => ?_) -- bif false then true else s_31 != s_47
                · -- yes
                  simp at c54 -- ¬s_31 = s_47
                  exfalso; omega
                · -- no
                  simp at c54 -- s_31 = s_47
                  refine ⟨?_, ?_⟩
                  · -- left
                    refine ⟨by first | omega | (dsimp only; omega), ?_⟩ -- (1 : Nat) ≤ n.toNat ∧ n.toNat ≤ (1024 : Nat)
                    refine ⟨by first | omega | (dsimp only; omega), ?_⟩ -- v_10.snd.snd.snd.length = n.toNat
                    refine ⟨by first | omega | (dsimp only; omega), ?_⟩ -- (0 : Int) ≤ v_10.snd.fst ∧ v_10.snd.fst < (↑n.toNat : Int)
                    refine ⟨by first | omega | (dsimp only; omega), ?_⟩ -- (0 : Int) ≤ v_10.snd.snd.fst
                    exact by omega -- v_10.snd.snd.fst ≤ (↑n.toNat : Int)
                  intro n121
                  intro q121 -- n121 = (↑(List.take v_10.fst.toNat l).length : Int)
                  refine br_intro (fun c55 => ?_) (fun c55 => ?_) -- bif false then true else !(v_10.snd.snd.fst == (↑n.toNat : Int)) == decide (n121 ≥ n)
                  · -- yes
                    simp at c55 -- ¬(v_10.snd.snd.fst == max n (0 : Int)) = decide (n ≤ n121)
                    -- k (AV.bool false) [] []
                    exfalso
                    apply c55
                    rw [eM, Bool.eq_iff_iff]
                    simp
                    omega
                  · -- no
                    simp at c55 -- (v_10.snd.snd.fst == max n (0 : Int)) = decide (n ≤ n121)
                    refine ⟨?_, ?_⟩
                    · -- left
                      refine ⟨((0 : Int), v_10.snd.fst, v_10.snd.snd.fst, v_10.snd.snd.snd, q_28, ys_27), ?_⟩
                      refine ⟨by first | with_reducible rfl | rfl, ?_⟩ -- n = n
                      refine ⟨by first | with_reducible rfl | rfl, ?_⟩ -- l = l
                      refine ⟨by first | with_reducible rfl | rfl, ?_⟩ -- p = p
                      refine ⟨by show v_10.fst = (↑v_10.fst.toNat : Int); omega, ?_⟩ -- v_10.fst = (↑v_10.fst.toNat : Int)
                      refine ⟨by first | with_reducible rfl | rfl, ?_⟩ -- (0 : Nat) = (0 : Nat)
                      refine ⟨by first | with_reducible rfl | rfl, ?_⟩ -- q_28 = q_28
                      refine ⟨by first | with_reducible rfl | rfl, ?_⟩ -- (0 : Int) = (0 : Int)
                      refine ⟨by first | with_reducible rfl | rfl, ?_⟩ -- (0 : Nat) = (0 : Nat)
                      refine ⟨by first | with_reducible rfl | rfl, ?_⟩ -- n.toNat = n.toNat
                      refine ⟨by first | with_reducible rfl | rfl, ?_⟩ -- v_10.snd.fst = v_10.snd.fst
                      refine ⟨by first | with_reducible rfl | rfl, ?_⟩ -- v_10.snd.snd.fst = v_10.snd.snd.fst
                      refine ⟨by first | with_reducible rfl | rfl, ?_⟩ -- v_10.snd.snd.snd = v_10.snd.snd.snd
                      refine ⟨by first | with_reducible rfl | rfl, ?_⟩ -- n = n
                      refine ⟨by first | with_reducible rfl | rfl, ?_⟩ -- List.take v_10.fst.toNat l = List.take v_10.fst.toNat l
                      refine ⟨by first | with_reducible rfl | rfl, ?_⟩ -- ys_27 = ys_27
                      refine ⟨by first | omega | (dsimp only; omega), ?_⟩ -- (0 : Int) ≤ (0 : Int) ∧ (0 : Int) ≤ (↑q_28 : Int)
                      refine ⟨?_, ?_⟩
                      · -- left
                        refine ⟨by first | omega | (dsimp only; omega), ?_⟩ -- (1 : Nat) ≤ n.toNat ∧ n.toNat ≤ (1024 : Nat)
                        refine ⟨by show v_10.snd.snd.snd.length = n.toNat; omega, ?_⟩ -- v_10.snd.snd.snd.length = n.toNat
                        refine ⟨by first | omega | (dsimp only; omega), ?_⟩ -- (0 : Int) ≤ v_10.snd.fst ∧ v_10.snd.fst < (↑n.toNat : Int)
                        refine ⟨by show (0 : Int) ≤ v_10.snd.snd.fst; omega, ?_⟩ -- (0 : Int) ≤ v_10.snd.snd.fst
                        exact by show v_10.snd.snd.fst ≤ (↑n.toNat : Int); omega -- v_10.snd.snd.fst ≤ (↑n.toNat : Int)
                      refine ⟨by exact h9.2.2, ?_⟩ -- RInv n.toNat v_10.snd.fst v_10.snd.snd.fst v_10.snd.snd.snd (List.take v_10.fst.toNat l)
                      exact by show ys_27.length = q_28; assumption -- ys_27.length = q_28
                    intro v_123
                    intro h56 -- ((0 : Int) ≤ v_123.fst ∧ v_123.fst ≤ (↑v_123.snd.snd.snd.snd.fst : Int)) ∧ (((1 : Nat) ≤ n.toNat ∧ n.toNat ≤ (1024 : Nat)) ∧ v_123.snd.snd.snd.fst.length = n.toNat ∧ ((0 : Int) ≤ v_123.snd.fst ∧ v_123.snd.fst < (↑n.toNat : Int)) ∧ (0 : Int) ≤ v_123.snd.snd.fst ∧ v_123.snd.snd.fst ≤ (↑n.toNat : Int)) ∧ RInv n.toNat v_123.snd.fst v_123.snd.snd.fst v_123.snd.snd.snd.fst (List.take v_10.fst.toNat l) ∧ v_123.snd.snd.snd.snd.snd.length = v_123.snd.snd.snd.snd.fst
                    intro n125
                    intro q125 -- n125 = (↑v_123.snd.snd.snd.snd.fst : Int)
                    intro ⟨l125, u125⟩ -- (-9223372036854775808 : Int) ≤ n125 ∧ n125 ≤ (9223372036854775807 : Int)
                    refine brd (fun c57 => ?_) (fun c57 => ?_) -- decide (v_123.fst < n125)
                    · -- yes
                      refine ⟨by first | omega | (dsimp only; omega), ?_⟩ -- (0 : Int) ≤ v_123.fst
                      refine ⟨by first | omega | (dsimp only; omega), ?_⟩ -- v_123.fst < (↑v_123.snd.snd.snd.snd.fst : Int)
                      refine ⟨by first | omega | (dsimp only; omega), ?_⟩ -- (0 : Nat) + v_123.fst.toNat < v_123.snd.snd.snd.snd.snd.length
                      intro z128
                      intro qz128 -- z128 = v_123.snd.snd.snd.snd.snd.set ((0 : Nat) + v_123.fst.toNat) (77 : Int)
                      intro n130
                      intro q130 -- n130 = IntKind.i64.wrap (v_123.fst + (1 : Int))
                      rw [IntKind.wrap_i64] at q130
                      intro ⟨l130, u130⟩ -- (-9223372036854775808 : Int) ≤ n130 ∧ n130 ≤ (9223372036854775807 : Int)
                      refine ⟨(n130, v_123.snd.fst, v_123.snd.snd.fst, v_123.snd.snd.snd.fst, v_123.snd.snd.snd.snd.fst, z128), ?_⟩
                      refine ⟨by first | with_reducible rfl | rfl, ?_⟩ -- n = n
                      refine ⟨by first | with_reducible rfl | rfl, ?_⟩ -- l = l
                      refine ⟨by first | with_reducible rfl | rfl, ?_⟩ -- p = p
                      refine ⟨by first | with_reducible rfl | rfl, ?_⟩ -- (↑v_10.fst.toNat : Int) = (↑v_10.fst.toNat : Int)
                      refine ⟨by first | with_reducible rfl | rfl, ?_⟩ -- (0 : Nat) = (0 : Nat)
                      refine ⟨by first | with_reducible rfl | rfl, ?_⟩ -- v_123.snd.snd.snd.snd.fst = v_123.snd.snd.snd.snd.fst
                      refine ⟨by first | with_reducible rfl | rfl, ?_⟩ -- n130 = n130
                      refine ⟨by first | with_reducible rfl | rfl, ?_⟩ -- (0 : Nat) = (0 : Nat)
                      refine ⟨by first | with_reducible rfl | rfl, ?_⟩ -- n.toNat = n.toNat
                      refine ⟨by first | with_reducible rfl | rfl, ?_⟩ -- v_123.snd.fst = v_123.snd.fst
                      refine ⟨by first | with_reducible rfl | rfl, ?_⟩ -- v_123.snd.snd.fst = v_123.snd.snd.fst
                      refine ⟨by first | with_reducible rfl | rfl, ?_⟩ -- v_123.snd.snd.snd.fst = v_123.snd.snd.snd.fst
                      refine ⟨by first | with_reducible rfl | rfl, ?_⟩ -- n = n
                      refine ⟨by first | with_reducible rfl | rfl, ?_⟩ -- List.take v_10.fst.toNat l = List.take v_10.fst.toNat l
                      refine ⟨by first | with_reducible rfl | rfl, ?_⟩ -- z128 = z128
                      refine ⟨?_, ?_⟩
                      · -- left
                        refine ⟨by first | omega | (dsimp only; omega), ?_⟩ -- (0 : Int) ≤ n130 ∧ n130 ≤ (↑v_123.snd.snd.snd.snd.fst : Int)
                        refine ⟨?_, ?_⟩
                        · -- left
                          refine ⟨by first | omega | (dsimp only; omega), ?_⟩ -- (1 : Nat) ≤ n.toNat ∧ n.toNat ≤ (1024 : Nat)
                          refine ⟨by show v_123.snd.snd.snd.fst.length = n.toNat; omega, ?_⟩ -- v_123.snd.snd.snd.fst.length = n.toNat
                          refine ⟨by first | omega | (dsimp only; omega), ?_⟩ -- (0 : Int) ≤ v_123.snd.fst ∧ v_123.snd.fst < (↑n.toNat : Int)
                          refine ⟨by show (0 : Int) ≤ v_123.snd.snd.fst; omega, ?_⟩ -- (0 : Int) ≤ v_123.snd.snd.fst
                          exact by show v_123.snd.snd.fst ≤ (↑n.toNat : Int); omega -- v_123.snd.snd.fst ≤ (↑n.toNat : Int)
                        have h58 : RInv n.toNat v_123.snd.fst v_123.snd.snd.fst v_123.snd.snd.snd.fst (List.take v_10.fst.toNat l) := by
                          exact h56.2.2.1
                        refine ⟨h58, ?_⟩
                        -- z128.length = v_123.snd.snd.snd.snd.fst
                        rw [qz128]; simp; omega
                      exact by show ((↑v_123.snd.snd.snd.snd.fst : Int) - n130).toNat < ((↑v_123.snd.snd.snd.snd.fst : Int) - v_123.fst).toNat; omega -- ((↑v_123.snd.snd.snd.snd.fst : Int) - n130).toNat < ((↑v_123.snd.snd.snd.snd.fst : Int) - v_123.fst).toNat
                    · -- no
                      intro n133
                      intro q133 -- n133 = (↑l.length : Int)
                      intro ⟨l133, u133⟩ -- (-9223372036854775808 : Int) ≤ n133 ∧ n133 ≤ (9223372036854775807 : Int)
                      refine brd (fun c59 => ?_) (fun c59 => ?_) -- decide ((↑v_10.fst.toNat : Int) < n133)
                      · -- yes
                        refine ⟨by first | omega | (dsimp only; omega), ?_⟩ -- (0 : Int) ≤ (↑v_10.fst.toNat : Int)
                        refine ⟨by first | omega | (dsimp only; omega), ?_⟩ -- (↑v_10.fst.toNat : Int) < (↑l.length : Int)
                        intro n136
                        intro q136 -- n136 = l.getD (↑v_10.fst.toNat : Int).toNat (0 : Int)
                        intro ⟨l136, u136⟩ -- (-9223372036854775808 : Int) ≤ n136 ∧ n136 ≤ (9223372036854775807 : Int)
                        refine ⟨?_, ?_⟩
                        · -- left
                          refine ⟨by first | omega | (dsimp only; omega), ?_⟩ -- (1 : Nat) ≤ n.toNat ∧ n.toNat ≤ (1024 : Nat)
                          refine ⟨by first | omega | (dsimp only; omega), ?_⟩ -- v_123.snd.snd.snd.fst.length = n.toNat
                          refine ⟨by first | omega | (dsimp only; omega), ?_⟩ -- (0 : Int) ≤ v_123.snd.fst ∧ v_123.snd.fst < (↑n.toNat : Int)
                          refine ⟨by first | omega | (dsimp only; omega), ?_⟩ -- (0 : Int) ≤ v_123.snd.snd.fst
                          exact by omega -- v_123.snd.snd.fst ≤ (↑n.toNat : Int)
                        refine ⟨by exact ⟨by assumption, by assumption⟩, ?_⟩ -- (-9223372036854775808 : Int) ≤ n136 ∧ n136 ≤ (9223372036854775807 : Int)
                        intro a1_139
                        intro m1_140
                        intro ys_141
                        intro h60 -- a1_139 = (v_123.snd.fst + (1 : Int)) % (↑n.toNat : Int)
                        intro h61 -- m1_140 = min (v_123.snd.snd.fst + (1 : Int)) (↑n.toNat : Int)
                        intro h62 -- ys_141 = v_123.snd.snd.snd.fst.set v_123.snd.fst.toNat n136
                        intro h63 -- ((1 : Nat) ≤ n.toNat ∧ n.toNat ≤ (1024 : Nat)) ∧ ys_141.length = n.toNat ∧ ((0 : Int) ≤ a1_139 ∧ a1_139 < (↑n.toNat : Int)) ∧ (0 : Int) ≤ m1_140 ∧ m1_140 ≤ (↑n.toNat : Int)
                        refine ⟨by first | omega | (dsimp only; omega), ?_⟩ -- (0 : Int) ≤ (↑v_10.fst.toNat : Int)
                        refine ⟨by first | omega | (dsimp only; omega), ?_⟩ -- (↑v_10.fst.toNat : Int) < (↑l.length : Int)
                        intro n146
                        intro q146 -- n146 = l.getD (↑v_10.fst.toNat : Int).toNat (0 : Int)
                        intro ⟨l146, u146⟩ -- (-9223372036854775808 : Int) ≤ n146 ∧ n146 ≤ (9223372036854775807 : Int)
                        refine ⟨by exact ⟨by assumption, by assumption⟩, ?_⟩ -- (-9223372036854775808 : Int) ≤ n ∧ n ≤ (9223372036854775807 : Int)
                        refine ⟨by first | omega | (dsimp only; omega), ?_⟩ -- (List.take v_10.fst.toNat l).length ≤ (2000 : Nat)
                        refine ⟨by exact ⟨by assumption, by assumption⟩, ?_⟩ -- (-9223372036854775808 : Int) ≤ n146 ∧ n146 ≤ (9223372036854775807 : Int)
                        intro n149
                        intro q149 -- n149 = IntKind.i64.wrap ((↑v_10.fst.toNat : Int) + (1 : Int))
                        rw [IntKind.wrap_i64] at q149
                        intro ⟨l149, u149⟩ -- (-9223372036854775808 : Int) ≤ n149 ∧ n149 ≤ (9223372036854775807 : Int)
                        refine ⟨(n149, a1_139, m1_140, ys_141), ?_⟩
                        refine ⟨by first | with_reducible rfl | rfl, ?_⟩ -- n = n
                        refine ⟨by first | with_reducible rfl | rfl, ?_⟩ -- l = l
                        refine ⟨by first | with_reducible rfl | rfl, ?_⟩ -- p = p
                        refine ⟨by first | with_reducible rfl | rfl, ?_⟩ -- n149 = n149
                        refine ⟨by first | with_reducible rfl | rfl, ?_⟩ -- (0 : Nat) = (0 : Nat)
                        refine ⟨by first | with_reducible rfl | rfl, ?_⟩ -- n.toNat = n.toNat
                        refine ⟨by first | with_reducible rfl | rfl, ?_⟩ -- a1_139 = a1_139
                        refine ⟨by first | with_reducible rfl | rfl, ?_⟩ -- m1_140 = m1_140
                        refine ⟨by first | with_reducible rfl | rfl, ?_⟩ -- ys_141 = ys_141
                        refine ⟨by first | with_reducible rfl | rfl, ?_⟩ -- n = n
                        have h64 : List.take v_10.fst.toNat l ++ [n146] = List.take n149.toNat l := by
                          rw [show n149.toNat = (v_10.fst + 1).toNat by omega, take_next (by omega) (by omega), q146, Int.toNat_natCast]
                        refine ⟨h64, ?_⟩
                        refine ⟨?_, ?_⟩
                        · -- left
                          refine ⟨by first | omega | (dsimp only; omega), ?_⟩ -- (0 : Int) ≤ n149 ∧ n149 ≤ (↑l.length : Int) + (1 : Int)
                          refine ⟨?_, ?_⟩
                          · -- left
                            refine ⟨by first | omega | (dsimp only; omega), ?_⟩ -- (1 : Nat) ≤ n.toNat ∧ n.toNat ≤ (1024 : Nat)
                            refine ⟨by show ys_141.length = n.toNat; omega, ?_⟩ -- ys_141.length = n.toNat
                            refine ⟨by first | omega | (dsimp only; omega), ?_⟩ -- (0 : Int) ≤ a1_139 ∧ a1_139 < (↑n.toNat : Int)
                            refine ⟨by show (0 : Int) ≤ m1_140; omega, ?_⟩ -- (0 : Int) ≤ m1_140
                            exact by show m1_140 ≤ (↑n.toNat : Int); omega -- m1_140 ≤ (↑n.toNat : Int)
                          -- RInv n.toNat a1_139 m1_140 ys_141 (List.take n149.toNat l)
                          rw [h60, h61, h62, ← h64, show n146 = n136 by rw [q146, q136]]
                          exact rinv_push h56.2.2.1 n136
                        exact by show ((↑l.length : Int) + (1 : Int) - n149).toNat < ((↑l.length : Int) + (1 : Int) - v_10.fst).toNat; omega -- ((↑l.length : Int) + (1 : Int) - n149).toNat < ((↑l.length : Int) + (1 : Int) - v_10.fst).toNat
                      · -- no
                        intro n152
                        intro q152 -- n152 = IntKind.i64.wrap ((↑v_10.fst.toNat : Int) + (1 : Int))
                        rw [IntKind.wrap_i64] at q152
                        intro ⟨l152, u152⟩ -- (-9223372036854775808 : Int) ≤ n152 ∧ n152 ≤ (9223372036854775807 : Int)
                        refine ⟨(n152, v_123.snd.fst, v_123.snd.snd.fst, v_123.snd.snd.snd.fst), ?_⟩
                        refine ⟨by first | with_reducible rfl | rfl, ?_⟩ -- n = n
                        refine ⟨by first | with_reducible rfl | rfl, ?_⟩ -- l = l
                        refine ⟨by first | with_reducible rfl | rfl, ?_⟩ -- p = p
                        refine ⟨by first | with_reducible rfl | rfl, ?_⟩ -- n152 = n152
                        refine ⟨by first | with_reducible rfl | rfl, ?_⟩ -- (0 : Nat) = (0 : Nat)
                        refine ⟨by first | with_reducible rfl | rfl, ?_⟩ -- n.toNat = n.toNat
                        refine ⟨by first | with_reducible rfl | rfl, ?_⟩ -- v_123.snd.fst = v_123.snd.fst
                        refine ⟨by first | with_reducible rfl | rfl, ?_⟩ -- v_123.snd.snd.fst = v_123.snd.snd.fst
                        refine ⟨by first | with_reducible rfl | rfl, ?_⟩ -- v_123.snd.snd.snd.fst = v_123.snd.snd.snd.fst
                        refine ⟨by first | with_reducible rfl | rfl, ?_⟩ -- n = n
                        have h65 : List.take v_10.fst.toNat l = List.take n152.toNat l := by
                          rw [List.take_of_length_le (by omega), List.take_of_length_le (by omega)]
                        refine ⟨h65, ?_⟩
                        refine ⟨?_, ?_⟩
                        · -- left
                          refine ⟨by first | omega | (dsimp only; omega), ?_⟩ -- (0 : Int) ≤ n152 ∧ n152 ≤ (↑l.length : Int) + (1 : Int)
                          refine ⟨?_, ?_⟩
                          · -- left
                            refine ⟨by first | omega | (dsimp only; omega), ?_⟩ -- (1 : Nat) ≤ n.toNat ∧ n.toNat ≤ (1024 : Nat)
                            refine ⟨by show v_123.snd.snd.snd.fst.length = n.toNat; omega, ?_⟩ -- v_123.snd.snd.snd.fst.length = n.toNat
                            refine ⟨by first | omega | (dsimp only; omega), ?_⟩ -- (0 : Int) ≤ v_123.snd.fst ∧ v_123.snd.fst < (↑n.toNat : Int)
                            refine ⟨by show (0 : Int) ≤ v_123.snd.snd.fst; omega, ?_⟩ -- (0 : Int) ≤ v_123.snd.snd.fst
                            exact by show v_123.snd.snd.fst ≤ (↑n.toNat : Int); omega -- v_123.snd.snd.fst ≤ (↑n.toNat : Int)
                          -- RInv n.toNat v_123.snd.fst v_123.snd.snd.fst v_123.snd.snd.snd.fst (List.take n152.toNat l)
                          rw [← h65]; exact h56.2.2.1
                        exact by show ((↑l.length : Int) + (1 : Int) - n152).toNat < ((↑l.length : Int) + (1 : Int) - v_10.fst).toNat; omega -- ((↑l.length : Int) + (1 : Int) - n152).toNat < ((↑l.length : Int) + (1 : Int) - v_10.fst).toNat
              intro n155
              intro q155 -- n155 = (↑(List.take v_10.fst.toNat l).length : Int)
              refine ⟨?_, ?_⟩
              · -- left
                refine br_intro (fun c66 => ?_) (fun c66 => ?_) -- bif false then true else s_31 != s_47
                · -- yes
                  simp at c66 -- ¬s_31 = s_47
                  exfalso; omega
                · -- no
                  simp at c66 -- s_31 = s_47
                  refine ⟨?_, ?_⟩
                  · -- left
                    refine ⟨by first | omega | (dsimp only; omega), ?_⟩ -- (1 : Nat) ≤ n.toNat ∧ n.toNat ≤ (1024 : Nat)
                    refine ⟨by first | omega | (dsimp only; omega), ?_⟩ -- v_10.snd.snd.snd.length = n.toNat
                    refine ⟨by first | omega | (dsimp only; omega), ?_⟩ -- (0 : Int) ≤ v_10.snd.fst ∧ v_10.snd.fst < (↑n.toNat : Int)
                    refine ⟨by first | omega | (dsimp only; omega), ?_⟩ -- (0 : Int) ≤ v_10.snd.snd.fst
                    exact by omega -- v_10.snd.snd.fst ≤ (↑n.toNat : Int)
                  refine br_intro (fun c67 => ?_) (fun c67 => ?_) -- bif false then true else !(v_10.snd.snd.fst == (↑n.toNat : Int)) == decide (n155 ≥ n)
                  · -- yes
                    simp at c67 -- ¬(v_10.snd.snd.fst == max n (0 : Int)) = decide (n ≤ n155)
                    -- k (AV.bool false) [] []
                    exfalso
                    apply c67
                    rw [eM, Bool.eq_iff_iff]
                    simp
                    omega
                  · -- no
                    simp at c67 -- (v_10.snd.snd.fst == max n (0 : Int)) = decide (n ≤ n155)
                    refine ⟨?_, ?_⟩
                    · -- left
                      refine ⟨((0 : Int), v_10.snd.fst, v_10.snd.snd.fst, v_10.snd.snd.snd, q_28, ys_27), ?_⟩
                      refine ⟨by first | with_reducible rfl | rfl, ?_⟩ -- n = n
                      refine ⟨by first | with_reducible rfl | rfl, ?_⟩ -- l = l
                      refine ⟨by first | with_reducible rfl | rfl, ?_⟩ -- p = p
                      refine ⟨by show v_10.fst = (↑v_10.fst.toNat : Int); omega, ?_⟩ -- v_10.fst = (↑v_10.fst.toNat : Int)
                      refine ⟨by first | with_reducible rfl | rfl, ?_⟩ -- (0 : Nat) = (0 : Nat)
                      refine ⟨by first | with_reducible rfl | rfl, ?_⟩ -- q_28 = q_28
                      refine ⟨by first | with_reducible rfl | rfl, ?_⟩ -- (0 : Int) = (0 : Int)
                      refine ⟨by first | with_reducible rfl | rfl, ?_⟩ -- (0 : Nat) = (0 : Nat)
                      refine ⟨by first | with_reducible rfl | rfl, ?_⟩ -- n.toNat = n.toNat
                      refine ⟨by first | with_reducible rfl | rfl, ?_⟩ -- v_10.snd.fst = v_10.snd.fst
                      refine ⟨by first | with_reducible rfl | rfl, ?_⟩ -- v_10.snd.snd.fst = v_10.snd.snd.fst
                      refine ⟨by first | with_reducible rfl | rfl, ?_⟩ -- v_10.snd.snd.snd = v_10.snd.snd.snd
                      refine ⟨by first | with_reducible rfl | rfl, ?_⟩ -- n = n
                      refine ⟨by first | with_reducible rfl | rfl, ?_⟩ -- List.take v_10.fst.toNat l = List.take v_10.fst.toNat l
                      refine ⟨by first | with_reducible rfl | rfl, ?_⟩ -- ys_27 = ys_27
                      refine ⟨by first | omega | (dsimp only; omega), ?_⟩ -- (0 : Int) ≤ (0 : Int) ∧ (0 : Int) ≤ (↑q_28 : Int)
                      refine ⟨?_, ?_⟩
                      · -- left
                        refine ⟨by first | omega | (dsimp only; omega), ?_⟩ -- (1 : Nat) ≤ n.toNat ∧ n.toNat ≤ (1024 : Nat)
                        refine ⟨by show v_10.snd.snd.snd.length = n.toNat; omega, ?_⟩ -- v_10.snd.snd.snd.length = n.toNat
                        refine ⟨by first | omega | (dsimp only; omega), ?_⟩ -- (0 : Int) ≤ v_10.snd.fst ∧ v_10.snd.fst < (↑n.toNat : Int)
                        refine ⟨by show (0 : Int) ≤ v_10.snd.snd.fst; omega, ?_⟩ -- (0 : Int) ≤ v_10.snd.snd.fst
                        exact by show v_10.snd.snd.fst ≤ (↑n.toNat : Int); omega -- v_10.snd.snd.fst ≤ (↑n.toNat : Int)
                      refine ⟨by exact h9.2.2, ?_⟩ -- RInv n.toNat v_10.snd.fst v_10.snd.snd.fst v_10.snd.snd.snd (List.take v_10.fst.toNat l)
                      exact by show ys_27.length = q_28; assumption -- ys_27.length = q_28
                    intro v_157
                    intro h68 -- ((0 : Int) ≤ v_157.fst ∧ v_157.fst ≤ (↑v_157.snd.snd.snd.snd.fst : Int)) ∧ (((1 : Nat) ≤ n.toNat ∧ n.toNat ≤ (1024 : Nat)) ∧ v_157.snd.snd.snd.fst.length = n.toNat ∧ ((0 : Int) ≤ v_157.snd.fst ∧ v_157.snd.fst < (↑n.toNat : Int)) ∧ (0 : Int) ≤ v_157.snd.snd.fst ∧ v_157.snd.snd.fst ≤ (↑n.toNat : Int)) ∧ RInv n.toNat v_157.snd.fst v_157.snd.snd.fst v_157.snd.snd.snd.fst (List.take v_10.fst.toNat l) ∧ v_157.snd.snd.snd.snd.snd.length = v_157.snd.snd.snd.snd.fst
                    intro n159
                    intro q159 -- n159 = (↑v_157.snd.snd.snd.snd.fst : Int)
                    intro ⟨l159, u159⟩ -- (-9223372036854775808 : Int) ≤ n159 ∧ n159 ≤ (9223372036854775807 : Int)
                    refine brd (fun c69 => ?_) (fun c69 => ?_) -- decide (v_157.fst < n159)
                    · -- yes
                      refine ⟨by first | omega | (dsimp only; omega), ?_⟩ -- (0 : Int) ≤ v_157.fst
                      refine ⟨by first | omega | (dsimp only; omega), ?_⟩ -- v_157.fst < (↑v_157.snd.snd.snd.snd.fst : Int)
                      refine ⟨by first | omega | (dsimp only; omega), ?_⟩ -- (0 : Nat) + v_157.fst.toNat < v_157.snd.snd.snd.snd.snd.length
                      intro z162
                      intro qz162 -- z162 = v_157.snd.snd.snd.snd.snd.set ((0 : Nat) + v_157.fst.toNat) (77 : Int)
                      intro n164
                      intro q164 -- n164 = IntKind.i64.wrap (v_157.fst + (1 : Int))
                      rw [IntKind.wrap_i64] at q164
                      intro ⟨l164, u164⟩ -- (-9223372036854775808 : Int) ≤ n164 ∧ n164 ≤ (9223372036854775807 : Int)
                      refine ⟨(n164, v_157.snd.fst, v_157.snd.snd.fst, v_157.snd.snd.snd.fst, v_157.snd.snd.snd.snd.fst, z162), ?_⟩
                      refine ⟨by first | with_reducible rfl | rfl, ?_⟩ -- n = n
                      refine ⟨by first | with_reducible rfl | rfl, ?_⟩ -- l = l
                      refine ⟨by first | with_reducible rfl | rfl, ?_⟩ -- p = p
                      refine ⟨by first | with_reducible rfl | rfl, ?_⟩ -- (↑v_10.fst.toNat : Int) = (↑v_10.fst.toNat : Int)
                      refine ⟨by first | with_reducible rfl | rfl, ?_⟩ -- (0 : Nat) = (0 : Nat)
                      refine ⟨by first | with_reducible rfl | rfl, ?_⟩ -- v_157.snd.snd.snd.snd.fst = v_157.snd.snd.snd.snd.fst
                      refine ⟨by first | with_reducible rfl | rfl, ?_⟩ -- n164 = n164
                      refine ⟨by first | with_reducible rfl | rfl, ?_⟩ -- (0 : Nat) = (0 : Nat)
                      refine ⟨by first | with_reducible rfl | rfl, ?_⟩ -- n.toNat = n.toNat
                      refine ⟨by first | with_reducible rfl | rfl, ?_⟩ -- v_157.snd.fst = v_157.snd.fst
                      refine ⟨by first | with_reducible rfl | rfl, ?_⟩ -- v_157.snd.snd.fst = v_157.snd.snd.fst
                      refine ⟨by first | with_reducible rfl | rfl, ?_⟩ -- v_157.snd.snd.snd.fst = v_157.snd.snd.snd.fst
                      refine ⟨by first | with_reducible rfl | rfl, ?_⟩ -- n = n
                      refine ⟨by first | with_reducible rfl | rfl, ?_⟩ -- List.take v_10.fst.toNat l = List.take v_10.fst.toNat l
                      refine ⟨by first | with_reducible rfl | rfl, ?_⟩ -- z162 = z162
                      refine ⟨?_, ?_⟩
                      · -- left
                        refine ⟨by first | omega | (dsimp only; omega), ?_⟩ -- (0 : Int) ≤ n164 ∧ n164 ≤ (↑v_157.snd.snd.snd.snd.fst : Int)
                        refine ⟨?_, ?_⟩
                        · -- left
                          refine ⟨by first | omega | (dsimp only; omega), ?_⟩ -- (1 : Nat) ≤ n.toNat ∧ n.toNat ≤ (1024 : Nat)
                          refine ⟨by show v_157.snd.snd.snd.fst.length = n.toNat; omega, ?_⟩ -- v_157.snd.snd.snd.fst.length = n.toNat
                          refine ⟨by first | omega | (dsimp only; omega), ?_⟩ -- (0 : Int) ≤ v_157.snd.fst ∧ v_157.snd.fst < (↑n.toNat : Int)
                          refine ⟨by show (0 : Int) ≤ v_157.snd.snd.fst; omega, ?_⟩ -- (0 : Int) ≤ v_157.snd.snd.fst
                          exact by show v_157.snd.snd.fst ≤ (↑n.toNat : Int); omega -- v_157.snd.snd.fst ≤ (↑n.toNat : Int)
                        have h70 : RInv n.toNat v_157.snd.fst v_157.snd.snd.fst v_157.snd.snd.snd.fst (List.take v_10.fst.toNat l) := by
                          exact h68.2.2.1
                        refine ⟨h70, ?_⟩
                        -- z162.length = v_157.snd.snd.snd.snd.fst
                        rw [qz162]; simp; omega
                      exact by show ((↑v_157.snd.snd.snd.snd.fst : Int) - n164).toNat < ((↑v_157.snd.snd.snd.snd.fst : Int) - v_157.fst).toNat; omega -- ((↑v_157.snd.snd.snd.snd.fst : Int) - n164).toNat < ((↑v_157.snd.snd.snd.snd.fst : Int) - v_157.fst).toNat
                    · -- no
                      intro n167
                      intro q167 -- n167 = (↑l.length : Int)
                      intro ⟨l167, u167⟩ -- (-9223372036854775808 : Int) ≤ n167 ∧ n167 ≤ (9223372036854775807 : Int)
                      refine brd (fun c71 => ?_) (fun c71 => ?_) -- decide ((↑v_10.fst.toNat : Int) < n167)
                      · -- yes
                        refine ⟨by first | omega | (dsimp only; omega), ?_⟩ -- (0 : Int) ≤ (↑v_10.fst.toNat : Int)
                        refine ⟨by first | omega | (dsimp only; omega), ?_⟩ -- (↑v_10.fst.toNat : Int) < (↑l.length : Int)
                        intro n170
                        intro q170 -- n170 = l.getD (↑v_10.fst.toNat : Int).toNat (0 : Int)
                        intro ⟨l170, u170⟩ -- (-9223372036854775808 : Int) ≤ n170 ∧ n170 ≤ (9223372036854775807 : Int)
                        refine ⟨?_, ?_⟩
                        · -- left
                          refine ⟨by first | omega | (dsimp only; omega), ?_⟩ -- (1 : Nat) ≤ n.toNat ∧ n.toNat ≤ (1024 : Nat)
                          refine ⟨by first | omega | (dsimp only; omega), ?_⟩ -- v_157.snd.snd.snd.fst.length = n.toNat
                          refine ⟨by first | omega | (dsimp only; omega), ?_⟩ -- (0 : Int) ≤ v_157.snd.fst ∧ v_157.snd.fst < (↑n.toNat : Int)
                          refine ⟨by first | omega | (dsimp only; omega), ?_⟩ -- (0 : Int) ≤ v_157.snd.snd.fst
                          exact by omega -- v_157.snd.snd.fst ≤ (↑n.toNat : Int)
                        refine ⟨by exact ⟨by assumption, by assumption⟩, ?_⟩ -- (-9223372036854775808 : Int) ≤ n170 ∧ n170 ≤ (9223372036854775807 : Int)
                        intro a1_173
                        intro m1_174
                        intro ys_175
                        intro h72 -- a1_173 = (v_157.snd.fst + (1 : Int)) % (↑n.toNat : Int)
                        intro h73 -- m1_174 = min (v_157.snd.snd.fst + (1 : Int)) (↑n.toNat : Int)
                        intro h74 -- ys_175 = v_157.snd.snd.snd.fst.set v_157.snd.fst.toNat n170
                        intro h75 -- ((1 : Nat) ≤ n.toNat ∧ n.toNat ≤ (1024 : Nat)) ∧ ys_175.length = n.toNat ∧ ((0 : Int) ≤ a1_173 ∧ a1_173 < (↑n.toNat : Int)) ∧ (0 : Int) ≤ m1_174 ∧ m1_174 ≤ (↑n.toNat : Int)
                        refine ⟨by first | omega | (dsimp only; omega), ?_⟩ -- (0 : Int) ≤ (↑v_10.fst.toNat : Int)
                        refine ⟨by first | omega | (dsimp only; omega), ?_⟩ -- (↑v_10.fst.toNat : Int) < (↑l.length : Int)
                        intro n180
                        intro q180 -- n180 = l.getD (↑v_10.fst.toNat : Int).toNat (0 : Int)
                        intro ⟨l180, u180⟩ -- (-9223372036854775808 : Int) ≤ n180 ∧ n180 ≤ (9223372036854775807 : Int)
                        refine ⟨by exact ⟨by assumption, by assumption⟩, ?_⟩ -- (-9223372036854775808 : Int) ≤ n ∧ n ≤ (9223372036854775807 : Int)
                        refine ⟨by first | omega | (dsimp only; omega), ?_⟩ -- (List.take v_10.fst.toNat l).length ≤ (2000 : Nat)
                        refine ⟨by exact ⟨by assumption, by assumption⟩, ?_⟩ -- (-9223372036854775808 : Int) ≤ n180 ∧ n180 ≤ (9223372036854775807 : Int)
                        intro n183
                        intro q183 -- n183 = IntKind.i64.wrap ((↑v_10.fst.toNat : Int) + (1 : Int))
                        rw [IntKind.wrap_i64] at q183
                        intro ⟨l183, u183⟩ -- (-9223372036854775808 : Int) ≤ n183 ∧ n183 ≤ (9223372036854775807 : Int)
                        refine ⟨(n183, a1_173, m1_174, ys_175), ?_⟩
                        refine ⟨by first | with_reducible rfl | rfl, ?_⟩ -- n = n
                        refine ⟨by first | with_reducible rfl | rfl, ?_⟩ -- l = l
                        refine ⟨by first | with_reducible rfl | rfl, ?_⟩ -- p = p
                        refine ⟨by first | with_reducible rfl | rfl, ?_⟩ -- n183 = n183
                        refine ⟨by first | with_reducible rfl | rfl, ?_⟩ -- (0 : Nat) = (0 : Nat)
                        refine ⟨by first | with_reducible rfl | rfl, ?_⟩ -- n.toNat = n.toNat
                        refine ⟨by first | with_reducible rfl | rfl, ?_⟩ -- a1_173 = a1_173
                        refine ⟨by first | with_reducible rfl | rfl, ?_⟩ -- m1_174 = m1_174
                        refine ⟨by first | with_reducible rfl | rfl, ?_⟩ -- ys_175 = ys_175
                        refine ⟨by first | with_reducible rfl | rfl, ?_⟩ -- n = n
                        have h76 : List.take v_10.fst.toNat l ++ [n180] = List.take n183.toNat l := by
                          rw [show n183.toNat = (v_10.fst + 1).toNat by omega, take_next (by omega) (by omega), q180, Int.toNat_natCast]
                        refine ⟨h76, ?_⟩
                        refine ⟨?_, ?_⟩
                        · -- left
                          refine ⟨by first | omega | (dsimp only; omega), ?_⟩ -- (0 : Int) ≤ n183 ∧ n183 ≤ (↑l.length : Int) + (1 : Int)
                          refine ⟨?_, ?_⟩
                          · -- left
                            refine ⟨by first | omega | (dsimp only; omega), ?_⟩ -- (1 : Nat) ≤ n.toNat ∧ n.toNat ≤ (1024 : Nat)
                            refine ⟨by show ys_175.length = n.toNat; omega, ?_⟩ -- ys_175.length = n.toNat
                            refine ⟨by first | omega | (dsimp only; omega), ?_⟩ -- (0 : Int) ≤ a1_173 ∧ a1_173 < (↑n.toNat : Int)
                            refine ⟨by show (0 : Int) ≤ m1_174; omega, ?_⟩ -- (0 : Int) ≤ m1_174
                            exact by show m1_174 ≤ (↑n.toNat : Int); omega -- m1_174 ≤ (↑n.toNat : Int)
                          -- RInv n.toNat a1_173 m1_174 ys_175 (List.take n183.toNat l)
                          rw [h72, h73, h74, ← h76, show n180 = n170 by rw [q180, q170]]
                          exact rinv_push h68.2.2.1 n170
                        exact by show ((↑l.length : Int) + (1 : Int) - n183).toNat < ((↑l.length : Int) + (1 : Int) - v_10.fst).toNat; omega -- ((↑l.length : Int) + (1 : Int) - n183).toNat < ((↑l.length : Int) + (1 : Int) - v_10.fst).toNat
                      · -- no
                        intro n186
                        intro q186 -- n186 = IntKind.i64.wrap ((↑v_10.fst.toNat : Int) + (1 : Int))
                        rw [IntKind.wrap_i64] at q186
                        intro ⟨l186, u186⟩ -- (-9223372036854775808 : Int) ≤ n186 ∧ n186 ≤ (9223372036854775807 : Int)
                        refine ⟨(n186, v_157.snd.fst, v_157.snd.snd.fst, v_157.snd.snd.snd.fst), ?_⟩
                        refine ⟨by first | with_reducible rfl | rfl, ?_⟩ -- n = n
                        refine ⟨by first | with_reducible rfl | rfl, ?_⟩ -- l = l
                        refine ⟨by first | with_reducible rfl | rfl, ?_⟩ -- p = p
                        refine ⟨by first | with_reducible rfl | rfl, ?_⟩ -- n186 = n186
                        refine ⟨by first | with_reducible rfl | rfl, ?_⟩ -- (0 : Nat) = (0 : Nat)
                        refine ⟨by first | with_reducible rfl | rfl, ?_⟩ -- n.toNat = n.toNat
                        refine ⟨by first | with_reducible rfl | rfl, ?_⟩ -- v_157.snd.fst = v_157.snd.fst
                        refine ⟨by first | with_reducible rfl | rfl, ?_⟩ -- v_157.snd.snd.fst = v_157.snd.snd.fst
                        refine ⟨by first | with_reducible rfl | rfl, ?_⟩ -- v_157.snd.snd.snd.fst = v_157.snd.snd.snd.fst
                        refine ⟨by first | with_reducible rfl | rfl, ?_⟩ -- n = n
                        have h77 : List.take v_10.fst.toNat l = List.take n186.toNat l := by
                          rw [List.take_of_length_le (by omega), List.take_of_length_le (by omega)]
                        refine ⟨h77, ?_⟩
                        refine ⟨?_, ?_⟩
                        · -- left
                          refine ⟨by first | omega | (dsimp only; omega), ?_⟩ -- (0 : Int) ≤ n186 ∧ n186 ≤ (↑l.length : Int) + (1 : Int)
                          refine ⟨?_, ?_⟩
                          · -- left
                            refine ⟨by first | omega | (dsimp only; omega), ?_⟩ -- (1 : Nat) ≤ n.toNat ∧ n.toNat ≤ (1024 : Nat)
                            refine ⟨by show v_157.snd.snd.snd.fst.length = n.toNat; omega, ?_⟩ -- v_157.snd.snd.snd.fst.length = n.toNat
                            refine ⟨by first | omega | (dsimp only; omega), ?_⟩ -- (0 : Int) ≤ v_157.snd.fst ∧ v_157.snd.fst < (↑n.toNat : Int)
                            refine ⟨by show (0 : Int) ≤ v_157.snd.snd.fst; omega, ?_⟩ -- (0 : Int) ≤ v_157.snd.snd.fst
                            exact by show v_157.snd.snd.fst ≤ (↑n.toNat : Int); omega -- v_157.snd.snd.fst ≤ (↑n.toNat : Int)
                          -- RInv n.toNat v_157.snd.fst v_157.snd.snd.fst v_157.snd.snd.snd.fst (List.take n186.toNat l)
                          rw [← h77]; exact h68.2.2.1
                        exact by show ((↑l.length : Int) + (1 : Int) - n186).toNat < ((↑l.length : Int) + (1 : Int) - v_10.fst).toNat; omega -- ((↑l.length : Int) + (1 : Int) - n186).toNat < ((↑l.length : Int) + (1 : Int) - v_10.fst).toNat
              refine br_intro (fun c78 => ?_) (fun c78 => ?_) -- bif false then true else s_31 != s_47
              · -- yes
                simp at c78 -- ¬s_31 = s_47
                exfalso; omega
              · -- no
                simp at c78 -- s_31 = s_47
                refine ⟨?_, ?_⟩
                · -- left
                  refine ⟨by first | omega | (dsimp only; omega), ?_⟩ -- (1 : Nat) ≤ n.toNat ∧ n.toNat ≤ (1024 : Nat)
                  refine ⟨by first | omega | (dsimp only; omega), ?_⟩ -- v_10.snd.snd.snd.length = n.toNat
                  refine ⟨by first | omega | (dsimp only; omega), ?_⟩ -- (0 : Int) ≤ v_10.snd.fst ∧ v_10.snd.fst < (↑n.toNat : Int)
                  refine ⟨by first | omega | (dsimp only; omega), ?_⟩ -- (0 : Int) ≤ v_10.snd.snd.fst
                  exact by omega -- v_10.snd.snd.fst ≤ (↑n.toNat : Int)
                refine br_intro (fun c79 => ?_) (fun c79 => ?_) -- bif false then true else !(v_10.snd.snd.fst == (↑n.toNat : Int)) == decide (n155 ≥ n)
                · -- yes
                  simp at c79 -- ¬(v_10.snd.snd.fst == max n (0 : Int)) = decide (n ≤ n155)
                  -- k (AV.bool false) [] []
                  exfalso
                  apply c79
                  rw [eM, Bool.eq_iff_iff]
                  simp
                  omega
                · -- no
                  simp at c79 -- (v_10.snd.snd.fst == max n (0 : Int)) = decide (n ≤ n155)
                  refine ⟨?_, ?_⟩
                  · -- left
                    refine ⟨((0 : Int), v_10.snd.fst, v_10.snd.snd.fst, v_10.snd.snd.snd, q_28, ys_27), ?_⟩
                    refine ⟨by first | with_reducible rfl | rfl, ?_⟩ -- n = n
                    refine ⟨by first | with_reducible rfl | rfl, ?_⟩ -- l = l
                    refine ⟨by first | with_reducible rfl | rfl, ?_⟩ -- p = p
                    refine ⟨by show v_10.fst = (↑v_10.fst.toNat : Int); omega, ?_⟩ -- v_10.fst = (↑v_10.fst.toNat : Int)
                    refine ⟨by first | with_reducible rfl | rfl, ?_⟩ -- (0 : Nat) = (0 : Nat)
                    refine ⟨by first | with_reducible rfl | rfl, ?_⟩ -- q_28 = q_28
                    refine ⟨by first | with_reducible rfl | rfl, ?_⟩ -- (0 : Int) = (0 : Int)
                    refine ⟨by first | with_reducible rfl | rfl, ?_⟩ -- (0 : Nat) = (0 : Nat)
                    refine ⟨by first | with_reducible rfl | rfl, ?_⟩ -- n.toNat = n.toNat
                    refine ⟨by first | with_reducible rfl | rfl, ?_⟩ -- v_10.snd.fst = v_10.snd.fst
                    refine ⟨by first | with_reducible rfl | rfl, ?_⟩ -- v_10.snd.snd.fst = v_10.snd.snd.fst
                    refine ⟨by first | with_reducible rfl | rfl, ?_⟩ -- v_10.snd.snd.snd = v_10.snd.snd.snd
                    refine ⟨by first | with_reducible rfl | rfl, ?_⟩ -- n = n
                    refine ⟨by first | with_reducible rfl | rfl, ?_⟩ -- List.take v_10.fst.toNat l = List.take v_10.fst.toNat l
                    refine ⟨by first | with_reducible rfl | rfl, ?_⟩ -- ys_27 = ys_27
                    refine ⟨by first | omega | (dsimp only; omega), ?_⟩ -- (0 : Int) ≤ (0 : Int) ∧ (0 : Int) ≤ (↑q_28 : Int)
                    refine ⟨?_, ?_⟩
                    · -- left
                      refine ⟨by first | omega | (dsimp only; omega), ?_⟩ -- (1 : Nat) ≤ n.toNat ∧ n.toNat ≤ (1024 : Nat)
                      refine ⟨by show v_10.snd.snd.snd.length = n.toNat; omega, ?_⟩ -- v_10.snd.snd.snd.length = n.toNat
                      refine ⟨by first | omega | (dsimp only; omega), ?_⟩ -- (0 : Int) ≤ v_10.snd.fst ∧ v_10.snd.fst < (↑n.toNat : Int)
                      refine ⟨by show (0 : Int) ≤ v_10.snd.snd.fst; omega, ?_⟩ -- (0 : Int) ≤ v_10.snd.snd.fst
                      exact by show v_10.snd.snd.fst ≤ (↑n.toNat : Int); omega -- v_10.snd.snd.fst ≤ (↑n.toNat : Int)
                    refine ⟨by exact h9.2.2, ?_⟩ -- RInv n.toNat v_10.snd.fst v_10.snd.snd.fst v_10.snd.snd.snd (List.take v_10.fst.toNat l)
                    exact by show ys_27.length = q_28; assumption -- ys_27.length = q_28
                  intro v_189
                  intro h80 -- ((0 : Int) ≤ v_189.fst ∧ v_189.fst ≤ (↑v_189.snd.snd.snd.snd.fst : Int)) ∧ (((1 : Nat) ≤ n.toNat ∧ n.toNat ≤ (1024 : Nat)) ∧ v_189.snd.snd.snd.fst.length = n.toNat ∧ ((0 : Int) ≤ v_189.snd.fst ∧ v_189.snd.fst < (↑n.toNat : Int)) ∧ (0 : Int) ≤ v_189.snd.snd.fst ∧ v_189.snd.snd.fst ≤ (↑n.toNat : Int)) ∧ RInv n.toNat v_189.snd.fst v_189.snd.snd.fst v_189.snd.snd.snd.fst (List.take v_10.fst.toNat l) ∧ v_189.snd.snd.snd.snd.snd.length = v_189.snd.snd.snd.snd.fst
                  intro n191
                  intro q191 -- n191 = (↑v_189.snd.snd.snd.snd.fst : Int)
                  intro ⟨l191, u191⟩ -- (-9223372036854775808 : Int) ≤ n191 ∧ n191 ≤ (9223372036854775807 : Int)
                  refine brd (fun c81 => ?_) (fun c81 => ?_) -- decide (v_189.fst < n191)
                  · -- yes
                    refine ⟨by first | omega | (dsimp only; omega), ?_⟩ -- (0 : Int) ≤ v_189.fst
                    refine ⟨by first | omega | (dsimp only; omega), ?_⟩ -- v_189.fst < (↑v_189.snd.snd.snd.snd.fst : Int)
                    refine ⟨by first | omega | (dsimp only; omega), ?_⟩ -- (0 : Nat) + v_189.fst.toNat < v_189.snd.snd.snd.snd.snd.length
                    intro z194
                    intro qz194 -- z194 = v_189.snd.snd.snd.snd.snd.set ((0 : Nat) + v_189.fst.toNat) (77 : Int)
                    intro n196
                    intro q196 -- n196 = IntKind.i64.wrap (v_189.fst + (1 : Int))
                    rw [IntKind.wrap_i64] at q196
                    intro ⟨l196, u196⟩ -- (-9223372036854775808 : Int) ≤ n196 ∧ n196 ≤ (9223372036854775807 : Int)
                    refine ⟨(n196, v_189.snd.fst, v_189.snd.snd.fst, v_189.snd.snd.snd.fst, v_189.snd.snd.snd.snd.fst, z194), ?_⟩
                    refine ⟨by first | with_reducible rfl | rfl, ?_⟩ -- n = n
                    refine ⟨by first | with_reducible rfl | rfl, ?_⟩ -- l = l
                    refine ⟨by first | with_reducible rfl | rfl, ?_⟩ -- p = p
                    refine ⟨by first | with_reducible rfl | rfl, ?_⟩ -- (↑v_10.fst.toNat : Int) = (↑v_10.fst.toNat : Int)
                    refine ⟨by first | with_reducible rfl | rfl, ?_⟩ -- (0 : Nat) = (0 : Nat)
                    refine ⟨by first | with_reducible rfl | rfl, ?_⟩ -- v_189.snd.snd.snd.snd.fst = v_189.snd.snd.snd.snd.fst
                    refine ⟨by first | with_reducible rfl | rfl, ?_⟩ -- n196 = n196
                    refine ⟨by first | with_reducible rfl | rfl, ?_⟩ -- (0 : Nat) = (0 : Nat)
                    refine ⟨by first | with_reducible rfl | rfl, ?_⟩ -- n.toNat = n.toNat
                    refine ⟨by first | with_reducible rfl | rfl, ?_⟩ -- v_189.snd.fst = v_189.snd.fst
                    refine ⟨by first | with_reducible rfl | rfl, ?_⟩ -- v_189.snd.snd.fst = v_189.snd.snd.fst
                    refine ⟨by first | with_reducible rfl | rfl, ?_⟩ -- v_189.snd.snd.snd.fst = v_189.snd.snd.snd.fst
                    refine ⟨by first | with_reducible rfl | rfl, ?_⟩ -- n = n
                    refine ⟨by first | with_reducible rfl | rfl, ?_⟩ -- List.take v_10.fst.toNat l = List.take v_10.fst.toNat l
                    refine ⟨by first | with_reducible rfl | rfl, ?_⟩ -- z194 = z194
                    refine ⟨?_, ?_⟩
                    · -- left
                      refine ⟨by first | omega | (dsimp only; omega), ?_⟩ -- (0 : Int) ≤ n196 ∧ n196 ≤ (↑v_189.snd.snd.snd.snd.fst : Int)
                      refine ⟨?_, ?_⟩
                      · -- left
                        refine ⟨by first | omega | (dsimp only; omega), ?_⟩ -- (1 : Nat) ≤ n.toNat ∧ n.toNat ≤ (1024 : Nat)
                        refine ⟨by show v_189.snd.snd.snd.fst.length = n.toNat; omega, ?_⟩ -- v_189.snd.snd.snd.fst.length = n.toNat
                        refine ⟨by first | omega | (dsimp only; omega), ?_⟩ -- (0 : Int) ≤ v_189.snd.fst ∧ v_189.snd.fst < (↑n.toNat : Int)
                        refine ⟨by show (0 : Int) ≤ v_189.snd.snd.fst; omega, ?_⟩ -- (0 : Int) ≤ v_189.snd.snd.fst
                        exact by show v_189.snd.snd.fst ≤ (↑n.toNat : Int); omega -- v_189.snd.snd.fst ≤ (↑n.toNat : Int)
                      have h82 : RInv n.toNat v_189.snd.fst v_189.snd.snd.fst v_189.snd.snd.snd.fst (List.take v_10.fst.toNat l) := by
                        exact h80.2.2.1
                      refine ⟨h82, ?_⟩
                      -- z194.length = v_189.snd.snd.snd.snd.fst
                      rw [qz194]; simp; omega
                    exact by show ((↑v_189.snd.snd.snd.snd.fst : Int) - n196).toNat < ((↑v_189.snd.snd.snd.snd.fst : Int) - v_189.fst).toNat; omega -- ((↑v_189.snd.snd.snd.snd.fst : Int) - n196).toNat < ((↑v_189.snd.snd.snd.snd.fst : Int) - v_189.fst).toNat
                  · -- no
                    intro n199
                    intro q199 -- n199 = (↑l.length : Int)
                    intro ⟨l199, u199⟩ -- (-9223372036854775808 : Int) ≤ n199 ∧ n199 ≤ (9223372036854775807 : Int)
                    refine brd (fun c83 => ?_) (fun c83 => ?_) -- decide ((↑v_10.fst.toNat : Int) < n199)
                    · -- yes
                      refine ⟨by first | omega | (dsimp only; omega), ?_⟩ -- (0 : Int) ≤ (↑v_10.fst.toNat : Int)
                      refine ⟨by first | omega | (dsimp only; omega), ?_⟩ -- (↑v_10.fst.toNat : Int) < (↑l.length : Int)
                      intro n202
                      intro q202 -- n202 = l.getD (↑v_10.fst.toNat : Int).toNat (0 : Int)
                      intro ⟨l202, u202⟩ -- (-9223372036854775808 : Int) ≤ n202 ∧ n202 ≤ (9223372036854775807 : Int)
                      refine ⟨?_, ?_⟩
                      · -- left
                        refine ⟨by first | omega | (dsimp only; omega), ?_⟩ -- (1 : Nat) ≤ n.toNat ∧ n.toNat ≤ (1024 : Nat)
                        refine ⟨by first | omega | (dsimp only; omega), ?_⟩ -- v_189.snd.snd.snd.fst.length = n.toNat
                        refine ⟨by first | omega | (dsimp only; omega), ?_⟩ -- (0 : Int) ≤ v_189.snd.fst ∧ v_189.snd.fst < (↑n.toNat : Int)
                        refine ⟨by first | omega | (dsimp only; omega), ?_⟩ -- (0 : Int) ≤ v_189.snd.snd.fst
                        exact by omega -- v_189.snd.snd.fst ≤ (↑n.toNat : Int)
                      refine ⟨by exact ⟨by assumption, by assumption⟩, ?_⟩ -- (-9223372036854775808 : Int) ≤ n202 ∧ n202 ≤ (9223372036854775807 : Int)
                      intro a1_205
                      intro m1_206
                      intro ys_207
                      intro h84 -- a1_205 = (v_189.snd.fst + (1 : Int)) % (↑n.toNat : Int)
                      intro h85 -- m1_206 = min (v_189.snd.snd.fst + (1 : Int)) (↑n.toNat : Int)
                      intro h86 -- ys_207 = v_189.snd.snd.snd.fst.set v_189.snd.fst.toNat n202
                      intro h87 -- ((1 : Nat) ≤ n.toNat ∧ n.toNat ≤ (1024 : Nat)) ∧ ys_207.length = n.toNat ∧ ((0 : Int) ≤ a1_205 ∧ a1_205 < (↑n.toNat : Int)) ∧ (0 : Int) ≤ m1_206 ∧ m1_206 ≤ (↑n.toNat : Int)
                      refine ⟨by first | omega | (dsimp only; omega), ?_⟩ -- (0 : Int) ≤ (↑v_10.fst.toNat : Int)
                      refine ⟨by first | omega | (dsimp only; omega), ?_⟩ -- (↑v_10.fst.toNat : Int) < (↑l.length : Int)
                      intro n212
                      intro q212 -- n212 = l.getD (↑v_10.fst.toNat : Int).toNat (0 : Int)
                      intro ⟨l212, u212⟩ -- (-9223372036854775808 : Int) ≤ n212 ∧ n212 ≤ (9223372036854775807 : Int)
                      refine ⟨by exact ⟨by assumption, by assumption⟩, ?_⟩ -- (-9223372036854775808 : Int) ≤ n ∧ n ≤ (9223372036854775807 : Int)
                      refine ⟨by first | omega | (dsimp only; omega), ?_⟩ -- (List.take v_10.fst.toNat l).length ≤ (2000 : Nat)
                      refine ⟨by exact ⟨by assumption, by assumption⟩, ?_⟩ -- (-9223372036854775808 : Int) ≤ n212 ∧ n212 ≤ (9223372036854775807 : Int)
                      intro n215
                      intro q215 -- n215 = IntKind.i64.wrap ((↑v_10.fst.toNat : Int) + (1 : Int))
                      rw [IntKind.wrap_i64] at q215
                      intro ⟨l215, u215⟩ -- (-9223372036854775808 : Int) ≤ n215 ∧ n215 ≤ (9223372036854775807 : Int)
                      refine ⟨(n215, a1_205, m1_206, ys_207), ?_⟩
                      refine ⟨by first | with_reducible rfl | rfl, ?_⟩ -- n = n
                      refine ⟨by first | with_reducible rfl | rfl, ?_⟩ -- l = l
                      refine ⟨by first | with_reducible rfl | rfl, ?_⟩ -- p = p
                      refine ⟨by first | with_reducible rfl | rfl, ?_⟩ -- n215 = n215
                      refine ⟨by first | with_reducible rfl | rfl, ?_⟩ -- (0 : Nat) = (0 : Nat)
                      refine ⟨by first | with_reducible rfl | rfl, ?_⟩ -- n.toNat = n.toNat
                      refine ⟨by first | with_reducible rfl | rfl, ?_⟩ -- a1_205 = a1_205
                      refine ⟨by first | with_reducible rfl | rfl, ?_⟩ -- m1_206 = m1_206
                      refine ⟨by first | with_reducible rfl | rfl, ?_⟩ -- ys_207 = ys_207
                      refine ⟨by first | with_reducible rfl | rfl, ?_⟩ -- n = n
                      have h88 : List.take v_10.fst.toNat l ++ [n212] = List.take n215.toNat l := by
                        rw [show n215.toNat = (v_10.fst + 1).toNat by omega, take_next (by omega) (by omega), q212, Int.toNat_natCast]
                      refine ⟨h88, ?_⟩
                      refine ⟨?_, ?_⟩
                      · -- left
                        refine ⟨by first | omega | (dsimp only; omega), ?_⟩ -- (0 : Int) ≤ n215 ∧ n215 ≤ (↑l.length : Int) + (1 : Int)
                        refine ⟨?_, ?_⟩
                        · -- left
                          refine ⟨by first | omega | (dsimp only; omega), ?_⟩ -- (1 : Nat) ≤ n.toNat ∧ n.toNat ≤ (1024 : Nat)
                          refine ⟨by show ys_207.length = n.toNat; omega, ?_⟩ -- ys_207.length = n.toNat
                          refine ⟨by first | omega | (dsimp only; omega), ?_⟩ -- (0 : Int) ≤ a1_205 ∧ a1_205 < (↑n.toNat : Int)
                          refine ⟨by show (0 : Int) ≤ m1_206; omega, ?_⟩ -- (0 : Int) ≤ m1_206
                          exact by show m1_206 ≤ (↑n.toNat : Int); omega -- m1_206 ≤ (↑n.toNat : Int)
                        -- RInv n.toNat a1_205 m1_206 ys_207 (List.take n215.toNat l)
                        rw [h84, h85, h86, ← h88, show n212 = n202 by rw [q212, q202]]
                        exact rinv_push h80.2.2.1 n202
                      exact by show ((↑l.length : Int) + (1 : Int) - n215).toNat < ((↑l.length : Int) + (1 : Int) - v_10.fst).toNat; omega -- ((↑l.length : Int) + (1 : Int) - n215).toNat < ((↑l.length : Int) + (1 : Int) - v_10.fst).toNat
                    · -- no
                      intro n218
                      intro q218 -- n218 = IntKind.i64.wrap ((↑v_10.fst.toNat : Int) + (1 : Int))
                      rw [IntKind.wrap_i64] at q218
                      intro ⟨l218, u218⟩ -- (-9223372036854775808 : Int) ≤ n218 ∧ n218 ≤ (9223372036854775807 : Int)
                      refine ⟨(n218, v_189.snd.fst, v_189.snd.snd.fst, v_189.snd.snd.snd.fst), ?_⟩
                      refine ⟨by first | with_reducible rfl | rfl, ?_⟩ -- n = n
                      refine ⟨by first | with_reducible rfl | rfl, ?_⟩ -- l = l
                      refine ⟨by first | with_reducible rfl | rfl, ?_⟩ -- p = p
                      refine ⟨by first | with_reducible rfl | rfl, ?_⟩ -- n218 = n218
                      refine ⟨by first | with_reducible rfl | rfl, ?_⟩ -- (0 : Nat) = (0 : Nat)
                      refine ⟨by first | with_reducible rfl | rfl, ?_⟩ -- n.toNat = n.toNat
                      refine ⟨by first | with_reducible rfl | rfl, ?_⟩ -- v_189.snd.fst = v_189.snd.fst
                      refine ⟨by first | with_reducible rfl | rfl, ?_⟩ -- v_189.snd.snd.fst = v_189.snd.snd.fst
                      refine ⟨by first | with_reducible rfl | rfl, ?_⟩ -- v_189.snd.snd.snd.fst = v_189.snd.snd.snd.fst
                      refine ⟨by first | with_reducible rfl | rfl, ?_⟩ -- n = n
                      have h89 : List.take v_10.fst.toNat l = List.take n218.toNat l := by
                        rw [List.take_of_length_le (by omega), List.take_of_length_le (by omega)]
                      refine ⟨h89, ?_⟩
                      refine ⟨?_, ?_⟩
                      · -- left
                        refine ⟨by first | omega | (dsimp only; omega), ?_⟩ -- (0 : Int) ≤ n218 ∧ n218 ≤ (↑l.length : Int) + (1 : Int)
                        refine ⟨?_, ?_⟩
                        · -- left
                          refine ⟨by first | omega | (dsimp only; omega), ?_⟩ -- (1 : Nat) ≤ n.toNat ∧ n.toNat ≤ (1024 : Nat)
                          refine ⟨by show v_189.snd.snd.snd.fst.length = n.toNat; omega, ?_⟩ -- v_189.snd.snd.snd.fst.length = n.toNat
                          refine ⟨by first | omega | (dsimp only; omega), ?_⟩ -- (0 : Int) ≤ v_189.snd.fst ∧ v_189.snd.fst < (↑n.toNat : Int)
                          refine ⟨by show (0 : Int) ≤ v_189.snd.snd.fst; omega, ?_⟩ -- (0 : Int) ≤ v_189.snd.snd.fst
                          exact by show v_189.snd.snd.fst ≤ (↑n.toNat : Int); omega -- v_189.snd.snd.fst ≤ (↑n.toNat : Int)
                        -- RInv n.toNat v_189.snd.fst v_189.snd.snd.fst v_189.snd.snd.snd.fst (List.take n218.toNat l)
                        rw [← h89]; exact h80.2.2.1
                      exact by show ((↑l.length : Int) + (1 : Int) - n218).toNat < ((↑l.length : Int) + (1 : Int) - v_10.fst).toNat; omega -- ((↑l.length : Int) + (1 : Int) - n218).toNat < ((↑l.length : Int) + (1 : Int) - v_10.fst).toNat
        · -- no
          exact by exact hk -- k (AV.bool true) [] []
      intro h90 -- n < (1 : Int) ∨ (1024 : Int) < n
      exact by (exfalso; omega) -- k (AV.bool false) [] []
    intro h91 -- n < (1 : Int) ∨ (1024 : Int) < n
    refine ⟨by exact ⟨by assumption, by assumption⟩, ?_⟩ -- (-9223372036854775808 : Int) ≤ n ∧ n ≤ (9223372036854775807 : Int)
    refine ⟨?_, ?_⟩
    · -- left
      intro h92 -- (1 : Int) ≤ n
      intro h93 -- n ≤ (1024 : Int)
      exact by (exfalso; omega) -- k (AV.bool false) [] []
    intro h94 -- n < (1 : Int) ∨ (1024 : Int) < n
    exact by exact hk -- k (AV.bool true) [] []

theorem ringPushes_ok : Holds Try.prog 4 lawILI := by
  refine fn_sound (env := mkEnv T6) (tab_ok T6_ok) Try.func4 Try.call4 fun args k h => ?_
  match args, h with
  | [.int .i64 n, .sl 1 l, .int .i64 p], h => exact ⟨by kernel_rfl, pushesLoops n l p, fun _ _ => none, .cast (by kernel_rfl) (ringPushes_vc n h.1.1 h.1.2 l p h.2.1.1 h.2.1.2 k h.2.2)⟩
end Go.Proofs.Ytcnnbofjgmohaaa

