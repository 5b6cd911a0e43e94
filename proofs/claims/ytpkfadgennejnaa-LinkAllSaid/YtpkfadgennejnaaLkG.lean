/- LinkAll: messages that come in order are all taken, however they fall into ticks, however often they come again behind. Any first number, cuts and repeats. No conditions beyond the row's own. -/
import Derived.Test.YtpkfadgennejnaaLkF
import Derived.Test.YtpkfadgennejnaaEngR
import Derived.Test.YtpkfadgennejnaaRows
namespace Go.Proofs.Ytpkfadgennejnaa
open Go Go.Eng Go.Lk Go.Proofs
set_option linter.unusedVariables false
set_option maxHeartbeats 2000000 in
theorem linkAll_vc (f : Int) (f0 : (0 : Int) ≤ f) (f1 : f ≤ (4294967295 : Int)) (cuts : List Bool) (again : List Bool) (k : AV → List (Option Blk) → List Blk → Prop) (hk : k (AV.bool true) [] []) :
  ∀ (n1 : Int),
  (n1 = (↑cuts.length : Int)) →
  ((-9223372036854775808 : Int) ≤ n1 ∧ n1 ≤ (9223372036854775807 : Int)) →
  br (bif decide (n1 > (40 : Int)) then true else decide (f > (2147483648 : Int)))
   ((k (AV.bool true) [] []))
   ((
     ∃ (v : Int × Int × Bool × Int × Int × List Msg),
     (f = f) ∧
     (cuts = cuts) ∧
     (again = again) ∧
     (true = true) ∧
     ((0 : Nat) = (0 : Nat)) ∧
     ((0 : Nat) = v.snd.snd.snd.snd.snd.length) ∧
     ((0 : Int) = v.snd.fst) ∧
     ((0 : Int) = v.fst) ∧
     (false = v.snd.snd.fst) ∧
     ((0 : Int) = v.snd.snd.snd.fst) ∧
     ((0 : Int) = v.snd.snd.snd.snd.fst) ∧
     ([] = v.snd.snd.snd.snd.snd) ∧
     (
      ((0 : Int) ≤ v.snd.fst) ∧
      (v.snd.fst ≤ v.fst) ∧
      (v.fst ≤ (↑cuts.length : Int))) ∧
     (
      ((0 : Int) ≤ v.snd.snd.snd.fst) ∧
      (v.snd.snd.snd.fst ≤ (4294967295 : Int))) ∧
     (
      ((0 : Int) ≤ v.snd.snd.snd.snd.fst) ∧
      (v.snd.snd.snd.snd.fst ≤ (1048576 : Int))) ∧
     ((v.snd.snd.fst, v.snd.snd.snd.fst) = st f v.snd.fst) ∧
     (Pend f v.fst v.snd.fst v.snd.snd.snd.snd.snd) ∧
     ((v.fst = (↑cuts.length : Int)) →
     (v.snd.fst = v.fst))) ∧
    ∀ (v_5 : Int × Int × Bool × Int × Int × List Msg),
    (((0 : Int) ≤ v_5.snd.fst ∧ v_5.snd.fst ≤ v_5.fst ∧ v_5.fst ≤ (↑cuts.length : Int)) ∧ ((0 : Int) ≤ v_5.snd.snd.snd.fst ∧ v_5.snd.snd.snd.fst ≤ (4294967295 : Int)) ∧ ((0 : Int) ≤ v_5.snd.snd.snd.snd.fst ∧ v_5.snd.snd.snd.snd.fst ≤ (1048576 : Int)) ∧ (v_5.snd.snd.fst, v_5.snd.snd.snd.fst) = st f v_5.snd.fst ∧ Pend f v_5.fst v_5.snd.fst v_5.snd.snd.snd.snd.snd ∧ (v_5.fst = (↑cuts.length : Int) → v_5.snd.fst = v_5.fst)) →
    ∀ (n7 : Int),
    (n7 = (↑cuts.length : Int)) →
    ((-9223372036854775808 : Int) ≤ n7 ∧ n7 ≤ (9223372036854775807 : Int)) →
    br (decide (v_5.fst < n7))
     (∀ (n10 : Int),
      (n10 = IntKind.u32.wrap v_5.fst) →
      ((0 : Int) ≤ n10 ∧ n10 ≤ (4294967295 : Int)) →
      ∀ (n13 : Int),
      (n13 = IntKind.u32.wrap (f + n10)) →
      ((0 : Int) ≤ n13 ∧ n13 ≤ (4294967295 : Int)) →
      ((List.take (1 : Nat) (List.drop (0 : Nat) [UInt32.ofNat n13.toNat])).length ≤ (1000000 : Nat)) ∧
      ∀ (ys_16 : List Msg),
      ∀ (n_17 : Nat),
      (ys_16 = List.map msg (List.take (1 : Nat) (List.drop (0 : Nat) [UInt32.ofNat n13.toNat]))) →
      (ys_16.length = n_17) →
      ((v_5.snd.snd.snd.snd.snd.length + n_17) * (32 : Nat) ≤ (140737488355328 : Nat)) ∧
      ∀ (z20 : List Msg),
      (z20 = List.take v_5.snd.snd.snd.snd.snd.length v_5.snd.snd.snd.snd.snd ++ List.take n_17 (List.drop (0 : Nat) ys_16)) →
      ∀ (n22 : Int),
      (n22 = (↑again.length : Int)) →
      ((-9223372036854775808 : Int) ≤ n22 ∧ n22 ≤ (9223372036854775807 : Int)) →
      (
       (decide (v_5.fst < n22) = true) →
       ((0 : Int) ≤ v_5.fst) ∧
       (v_5.fst < (↑again.length : Int))) ∧
      br (bif decide (v_5.fst < n22) then again.getD v_5.fst.toNat false else false)
       (∀ (n26 : Int),
        (n26 = IntKind.u32.wrap v_5.fst) →
        ((0 : Int) ≤ n26 ∧ n26 ≤ (4294967295 : Int)) →
        ∀ (n29 : Int),
        (n29 = IntKind.u32.wrap (f + n26)) →
        ((0 : Int) ≤ n29 ∧ n29 ≤ (4294967295 : Int)) →
        ((List.take (2 : Nat) (List.drop (0 : Nat) [UInt32.ofNat n29.toNat, UInt32.ofNat f.toNat])).length ≤ (1000000 : Nat)) ∧
        ∀ (ys_32 : List Msg),
        ∀ (n_33 : Nat),
        (ys_32 = List.map msg (List.take (2 : Nat) (List.drop (0 : Nat) [UInt32.ofNat n29.toNat, UInt32.ofNat f.toNat]))) →
        (ys_32.length = n_33) →
        ((v_5.snd.snd.snd.snd.snd.length + n_17 + n_33) * (32 : Nat) ≤ (140737488355328 : Nat)) ∧
        ∀ (z36 : List Msg),
        (z36 = List.take (v_5.snd.snd.snd.snd.snd.length + n_17) z20 ++ List.take n_33 (List.drop (0 : Nat) ys_32)) →
        ((0 : Int) ≤ v_5.fst) ∧
        (v_5.fst < (↑cuts.length : Int)) ∧
        ∀ (n38 : Int),
        (n38 = IntKind.i64.wrap (v_5.fst + (1 : Int))) →
        ∀ (n40 : Int),
        (n40 = (↑cuts.length : Int)) →
        br (bif !cuts.getD v_5.fst.toNat false then decide (n38 < n40) else false)
         (∀ (n42 : Int),
          (n42 = IntKind.i64.wrap (v_5.fst + (1 : Int))) →
          ((-9223372036854775808 : Int) ≤ n42 ∧ n42 ≤ (9223372036854775807 : Int)) →
          ∃ (v' : Int × Int × Bool × Int × Int × List Msg),
          (f = f) ∧
          (cuts = cuts) ∧
          (again = again) ∧
          (true = true) ∧
          ((0 : Nat) = (0 : Nat)) ∧
          (v_5.snd.snd.snd.snd.snd.length + n_17 + n_33 = v'.snd.snd.snd.snd.snd.length) ∧
          (v_5.snd.fst = v'.snd.fst) ∧
          (n42 = v'.fst) ∧
          (v_5.snd.snd.fst = v'.snd.snd.fst) ∧
          (v_5.snd.snd.snd.fst = v'.snd.snd.snd.fst) ∧
          (v_5.snd.snd.snd.snd.fst = v'.snd.snd.snd.snd.fst) ∧
          (z36 = v'.snd.snd.snd.snd.snd) ∧
          (
           (
            ((0 : Int) ≤ v'.snd.fst) ∧
            (v'.snd.fst ≤ v'.fst) ∧
            (v'.fst ≤ (↑cuts.length : Int))) ∧
           (
            ((0 : Int) ≤ v'.snd.snd.snd.fst) ∧
            (v'.snd.snd.snd.fst ≤ (4294967295 : Int))) ∧
           (
            ((0 : Int) ≤ v'.snd.snd.snd.snd.fst) ∧
            (v'.snd.snd.snd.snd.fst ≤ (1048576 : Int))) ∧
           ((v'.snd.snd.fst, v'.snd.snd.snd.fst) = st f v'.snd.fst) ∧
           (Pend f v'.fst v'.snd.fst v'.snd.snd.snd.snd.snd) ∧
           ((v'.fst = (↑cuts.length : Int)) →
           (v'.snd.fst = v'.fst))) ∧
          (((↑cuts.length : Int) - v'.fst).toNat < ((↑cuts.length : Int) - v_5.fst).toNat))
         ((
           ((0 : Int) ≤ v_5.snd.snd.snd.fst) ∧
           (v_5.snd.snd.snd.fst ≤ (4294967295 : Int))) ∧
          (
           ((-9223372036854775808 : Int) ≤ v_5.snd.snd.snd.snd.fst) ∧
           (v_5.snd.snd.snd.snd.fst ≤ (9223372036854775807 : Int))) ∧
          (
           ∀ (e_46 : Int),
           (e_46 = lE v_5.snd.snd.fst v_5.snd.snd.snd.fst v_5.snd.snd.snd.snd.fst (List.take (v_5.snd.snd.snd.snd.snd.length + n_17 + n_33) (List.drop (0 : Nat) z36))) →
           (e_46 ≠ (0 : Int)) →
           br (e_46 != (0 : Int))
            ((k (AV.bool false) [] []))
            ((
              ∃ (v : Int × Int × Int × Nat × List Msg × Bool × Int × Int),
              (f = f) ∧
              (cuts = cuts) ∧
              (again = again) ∧
              (true = true) ∧
              (v_5.snd.fst = v.snd.fst) ∧
              (v_5.fst = v.snd.snd.fst) ∧
              (False) ∧
              ((0 : Int) = v.fst) ∧
              (False) ∧
              (false = v.snd.snd.snd.snd.snd.fst) ∧
              ((0 : Int) = v.snd.snd.snd.snd.snd.snd.fst) ∧
              ((0 : Int) = v.snd.snd.snd.snd.snd.snd.snd) ∧
              (
               ((0 : Int) ≤ v.fst) ∧
               (v.fst ≤ (↑v.snd.snd.snd.fst : Int))) ∧
              (v.snd.snd.snd.snd.fst.length = v.snd.snd.snd.fst) ∧
              (
               ((0 : Int) ≤ v.snd.snd.fst) ∧
               (v.snd.snd.fst < (↑cuts.length : Int)) ∧
               (v.snd.snd.fst = (↑v_5.fst.toNat : Int))) ∧
              (v.snd.fst + ((↑v.snd.snd.snd.fst : Int) - v.fst) = v.snd.snd.fst + (1 : Int)) ∧
              (v.fst ≤ v.snd.fst) ∧
              (
               ∀ (j_49 : Nat),
               (j_49 < v.snd.snd.snd.fst) →
               ((↑(v.snd.snd.snd.snd.fst.getD j_49 (dflt (8 : Nat))).seq.toNat : Int) = f + (v.snd.fst - v.fst) + (↑j_49 : Int))) ∧
              ((v.snd.snd.snd.snd.snd.fst, v.snd.snd.snd.snd.snd.snd.fst) = st f (v.snd.snd.fst + (1 : Int))) ∧
              (
               ((0 : Int) ≤ v.snd.snd.snd.snd.snd.snd.fst) ∧
               (v.snd.snd.snd.snd.snd.snd.fst ≤ (4294967295 : Int))) ∧
              ((0 : Int) ≤ v.snd.snd.snd.snd.snd.snd.snd) ∧
              (v.snd.snd.snd.snd.snd.snd.snd ≤ (1048576 : Int))) ∧
             ∀ (v_51 : Int × Int × Int × Nat × List Msg × Bool × Int × Int),
             (((0 : Int) ≤ v_51.fst ∧ v_51.fst ≤ (↑v_51.snd.snd.snd.fst : Int)) ∧ v_51.snd.snd.snd.snd.fst.length = v_51.snd.snd.snd.fst ∧ ((0 : Int) ≤ v_51.snd.snd.fst ∧ v_51.snd.snd.fst < (↑cuts.length : Int) ∧ v_51.snd.snd.fst = (↑v_5.fst.toNat : Int)) ∧ v_51.snd.fst + ((↑v_51.snd.snd.snd.fst : Int) - v_51.fst) = v_51.snd.snd.fst + (1 : Int) ∧ v_51.fst ≤ v_51.snd.fst ∧ (∀ (j : Nat), j < v_51.snd.snd.snd.fst → (↑(v_51.snd.snd.snd.snd.fst.getD j (dflt (8 : Nat))).seq.toNat : Int) = f + (v_51.snd.fst - v_51.fst) + (↑j : Int)) ∧ (v_51.snd.snd.snd.snd.snd.fst, v_51.snd.snd.snd.snd.snd.snd.fst) = st f (v_51.snd.snd.fst + (1 : Int)) ∧ ((0 : Int) ≤ v_51.snd.snd.snd.snd.snd.snd.fst ∧ v_51.snd.snd.snd.snd.snd.snd.fst ≤ (4294967295 : Int)) ∧ (0 : Int) ≤ v_51.snd.snd.snd.snd.snd.snd.snd ∧ v_51.snd.snd.snd.snd.snd.snd.snd ≤ (1048576 : Int)) →
             ∀ (n53 : Int),
             (n53 = (↑v_51.snd.snd.snd.fst : Int)) →
             ((-9223372036854775808 : Int) ≤ n53 ∧ n53 ≤ (9223372036854775807 : Int)) →
             br (decide (v_51.fst < n53))
              (((0 : Int) ≤ v_51.fst) ∧
               (v_51.fst < (↑v_51.snd.snd.snd.fst : Int)) ∧
               ((0 : Nat) + v_51.fst.toNat < v_51.snd.snd.snd.snd.fst.length) ∧
               ∀ (n56 : Int),
               (n56 = (↑(v_51.snd.snd.snd.snd.fst.getD ((0 : Nat) + v_51.fst.toNat) (dflt (8 : Nat))).seq.toNat : Int)) →
               ((0 : Int) ≤ n56 ∧ n56 ≤ (4294967295 : Int)) →
               ∀ (n59 : Int),
               (n59 = IntKind.u32.wrap v_51.snd.fst) →
               ((0 : Int) ≤ n59 ∧ n59 ≤ (4294967295 : Int)) →
               ∀ (n62 : Int),
               (n62 = IntKind.u32.wrap (f + n59)) →
               ((0 : Int) ≤ n62 ∧ n62 ≤ (4294967295 : Int)) →
               br (n56 != n62)
                ((k (AV.bool false) [] []))
                (∀ (n65 : Int),
                 (n65 = IntKind.i64.wrap (v_51.snd.fst + (1 : Int))) →
                 ((-9223372036854775808 : Int) ≤ n65 ∧ n65 ≤ (9223372036854775807 : Int)) →
                 ∀ (n68 : Int),
                 (n68 = IntKind.i64.wrap (v_51.fst + (1 : Int))) →
                 ((-9223372036854775808 : Int) ≤ n68 ∧ n68 ≤ (9223372036854775807 : Int)) →
                 ∃ (v' : Int × Int × Int × Nat × List Msg × Bool × Int × Int),
                 (f = f) ∧
                 (cuts = cuts) ∧
                 (again = again) ∧
                 (true = true) ∧
                 (n65 = v'.snd.fst) ∧
                 (v_51.snd.snd.fst = v'.snd.snd.fst) ∧
                 ((0 : Nat) = (0 : Nat)) ∧
                 (v_51.snd.snd.snd.fst = v'.snd.snd.snd.fst) ∧
                 (n68 = v'.fst) ∧
                 (v_51.snd.snd.snd.snd.fst = v'.snd.snd.snd.snd.fst) ∧
                 (v_51.snd.snd.snd.snd.snd.fst = v'.snd.snd.snd.snd.snd.fst) ∧
                 (v_51.snd.snd.snd.snd.snd.snd.fst = v'.snd.snd.snd.snd.snd.snd.fst) ∧
                 (v_51.snd.snd.snd.snd.snd.snd.snd = v'.snd.snd.snd.snd.snd.snd.snd) ∧
                 (
                  (
                   ((0 : Int) ≤ v'.fst) ∧
                   (v'.fst ≤ (↑v'.snd.snd.snd.fst : Int))) ∧
                  (v'.snd.snd.snd.snd.fst.length = v'.snd.snd.snd.fst) ∧
                  (
                   ((0 : Int) ≤ v'.snd.snd.fst) ∧
                   (v'.snd.snd.fst < (↑cuts.length : Int)) ∧
                   (v'.snd.snd.fst = (↑v_5.fst.toNat : Int))) ∧
                  (v'.snd.fst + ((↑v'.snd.snd.snd.fst : Int) - v'.fst) = v'.snd.snd.fst + (1 : Int)) ∧
                  (v'.fst ≤ v'.snd.fst) ∧
                  (
                   ∀ (j_71 : Nat),
                   (j_71 < v'.snd.snd.snd.fst) →
                   ((↑(v'.snd.snd.snd.snd.fst.getD j_71 (dflt (8 : Nat))).seq.toNat : Int) = f + (v'.snd.fst - v'.fst) + (↑j_71 : Int))) ∧
                  ((v'.snd.snd.snd.snd.snd.fst, v'.snd.snd.snd.snd.snd.snd.fst) = st f (v'.snd.snd.fst + (1 : Int))) ∧
                  (
                   ((0 : Int) ≤ v'.snd.snd.snd.snd.snd.snd.fst) ∧
                   (v'.snd.snd.snd.snd.snd.snd.fst ≤ (4294967295 : Int))) ∧
                  ((0 : Int) ≤ v'.snd.snd.snd.snd.snd.snd.snd) ∧
                  (v'.snd.snd.snd.snd.snd.snd.snd ≤ (1048576 : Int))) ∧
                 (((↑v'.snd.snd.snd.fst : Int) - v'.fst).toNat < ((↑v_51.snd.snd.snd.fst : Int) - v_51.fst).toNat)))
              (∀ (n73 : Int),
               (n73 = IntKind.i64.wrap (v_51.snd.snd.fst + (1 : Int))) →
               ((-9223372036854775808 : Int) ≤ n73 ∧ n73 ≤ (9223372036854775807 : Int)) →
               ∃ (v' : Int × Int × Bool × Int × Int × List Msg),
               (f = f) ∧
               (cuts = cuts) ∧
               (again = again) ∧
               (true = true) ∧
               ((0 : Nat) = (0 : Nat)) ∧
               ((0 : Nat) = v'.snd.snd.snd.snd.snd.length) ∧
               (v_51.snd.fst = v'.snd.fst) ∧
               (n73 = v'.fst) ∧
               (v_51.snd.snd.snd.snd.snd.fst = v'.snd.snd.fst) ∧
               (v_51.snd.snd.snd.snd.snd.snd.fst = v'.snd.snd.snd.fst) ∧
               (v_51.snd.snd.snd.snd.snd.snd.snd = v'.snd.snd.snd.snd.fst) ∧
               ([] = v'.snd.snd.snd.snd.snd) ∧
               (
                (
                 ((0 : Int) ≤ v'.snd.fst) ∧
                 (v'.snd.fst ≤ v'.fst) ∧
                 (v'.fst ≤ (↑cuts.length : Int))) ∧
                (
                 ((0 : Int) ≤ v'.snd.snd.snd.fst) ∧
                 (v'.snd.snd.snd.fst ≤ (4294967295 : Int))) ∧
                (
                 ((0 : Int) ≤ v'.snd.snd.snd.snd.fst) ∧
                 (v'.snd.snd.snd.snd.fst ≤ (1048576 : Int))) ∧
                ((v'.snd.snd.fst, v'.snd.snd.snd.fst) = st f v'.snd.fst) ∧
                (Pend f v'.fst v'.snd.fst v'.snd.snd.snd.snd.snd) ∧
                ((v'.fst = (↑cuts.length : Int)) →
                (v'.snd.fst = v'.fst))) ∧
               (((↑cuts.length : Int) - v'.fst).toNat < ((↑cuts.length : Int) - v_5.fst).toNat)))) ∧
          ((lE v_5.snd.snd.fst v_5.snd.snd.snd.fst v_5.snd.snd.snd.snd.fst (List.take (v_5.snd.snd.snd.snd.snd.length + n_17 + n_33) (List.drop (0 : Nat) z36)) = (0 : Int)) →
          ∀ (b_78 : Bool),
          ∀ (l_79 : Int),
          ∀ (a_80 : Int),
          ∀ (ys_81 : List Msg),
          ∀ (n_82 : Nat),
          ((b_78, l_79) = stk (v_5.snd.snd.fst, v_5.snd.snd.snd.fst) (List.take (v_5.snd.snd.snd.snd.snd.length + n_17 + n_33) (List.drop (0 : Nat) z36))) →
          ((0 : Int) ≤ l_79 ∧ l_79 ≤ (4294967295 : Int)) →
          (ys_81 = tk (v_5.snd.snd.fst, v_5.snd.snd.snd.fst) (List.take (v_5.snd.snd.snd.snd.snd.length + n_17 + n_33) (List.drop (0 : Nat) z36))) →
          (ys_81.length = n_82) →
          (a_80 = ageN v_5.snd.snd.snd.snd.fst n_82) →
          (
           ∃ (v : Int × Int × Int × Nat × List Msg × Bool × Int × Int),
           (f = f) ∧
           (cuts = cuts) ∧
           (again = again) ∧
           (true = true) ∧
           (v_5.snd.fst = v.snd.fst) ∧
           (v_5.fst = v.snd.snd.fst) ∧
           ((0 : Nat) = (0 : Nat)) ∧
           (n_82 = v.snd.snd.snd.fst) ∧
           ((0 : Int) = v.fst) ∧
           (ys_81 = v.snd.snd.snd.snd.fst) ∧
           (b_78 = v.snd.snd.snd.snd.snd.fst) ∧
           (l_79 = v.snd.snd.snd.snd.snd.snd.fst) ∧
           (a_80 = v.snd.snd.snd.snd.snd.snd.snd) ∧
           (
            ((0 : Int) ≤ v.fst) ∧
            (v.fst ≤ (↑v.snd.snd.snd.fst : Int))) ∧
           (v.snd.snd.snd.snd.fst.length = v.snd.snd.snd.fst) ∧
           (
            ((0 : Int) ≤ v.snd.snd.fst) ∧
            (v.snd.snd.fst < (↑cuts.length : Int)) ∧
            (v.snd.snd.fst = (↑v_5.fst.toNat : Int))) ∧
           (v.snd.fst + ((↑v.snd.snd.snd.fst : Int) - v.fst) = v.snd.snd.fst + (1 : Int)) ∧
           (v.fst ≤ v.snd.fst) ∧
           (
            ∀ (j_88 : Nat),
            (j_88 < v.snd.snd.snd.fst) →
            ((↑(v.snd.snd.snd.snd.fst.getD j_88 (dflt (8 : Nat))).seq.toNat : Int) = f + (v.snd.fst - v.fst) + (↑j_88 : Int))) ∧
           ((v.snd.snd.snd.snd.snd.fst, v.snd.snd.snd.snd.snd.snd.fst) = st f (v.snd.snd.fst + (1 : Int))) ∧
           (
            ((0 : Int) ≤ v.snd.snd.snd.snd.snd.snd.fst) ∧
            (v.snd.snd.snd.snd.snd.snd.fst ≤ (4294967295 : Int))) ∧
           ((0 : Int) ≤ v.snd.snd.snd.snd.snd.snd.snd) ∧
           (v.snd.snd.snd.snd.snd.snd.snd ≤ (1048576 : Int))) ∧
          ∀ (v_90 : Int × Int × Int × Nat × List Msg × Bool × Int × Int),
          (((0 : Int) ≤ v_90.fst ∧ v_90.fst ≤ (↑v_90.snd.snd.snd.fst : Int)) ∧ v_90.snd.snd.snd.snd.fst.length = v_90.snd.snd.snd.fst ∧ ((0 : Int) ≤ v_90.snd.snd.fst ∧ v_90.snd.snd.fst < (↑cuts.length : Int) ∧ v_90.snd.snd.fst = (↑v_5.fst.toNat : Int)) ∧ v_90.snd.fst + ((↑v_90.snd.snd.snd.fst : Int) - v_90.fst) = v_90.snd.snd.fst + (1 : Int) ∧ v_90.fst ≤ v_90.snd.fst ∧ (∀ (j : Nat), j < v_90.snd.snd.snd.fst → (↑(v_90.snd.snd.snd.snd.fst.getD j (dflt (8 : Nat))).seq.toNat : Int) = f + (v_90.snd.fst - v_90.fst) + (↑j : Int)) ∧ (v_90.snd.snd.snd.snd.snd.fst, v_90.snd.snd.snd.snd.snd.snd.fst) = st f (v_90.snd.snd.fst + (1 : Int)) ∧ ((0 : Int) ≤ v_90.snd.snd.snd.snd.snd.snd.fst ∧ v_90.snd.snd.snd.snd.snd.snd.fst ≤ (4294967295 : Int)) ∧ (0 : Int) ≤ v_90.snd.snd.snd.snd.snd.snd.snd ∧ v_90.snd.snd.snd.snd.snd.snd.snd ≤ (1048576 : Int)) →
          ∀ (n92 : Int),
          (n92 = (↑v_90.snd.snd.snd.fst : Int)) →
          ((-9223372036854775808 : Int) ≤ n92 ∧ n92 ≤ (9223372036854775807 : Int)) →
          br (decide (v_90.fst < n92))
           (((0 : Int) ≤ v_90.fst) ∧
            (v_90.fst < (↑v_90.snd.snd.snd.fst : Int)) ∧
            ((0 : Nat) + v_90.fst.toNat < v_90.snd.snd.snd.snd.fst.length) ∧
            ∀ (n95 : Int),
            (n95 = (↑(v_90.snd.snd.snd.snd.fst.getD ((0 : Nat) + v_90.fst.toNat) (dflt (8 : Nat))).seq.toNat : Int)) →
            ((0 : Int) ≤ n95 ∧ n95 ≤ (4294967295 : Int)) →
            ∀ (n98 : Int),
            (n98 = IntKind.u32.wrap v_90.snd.fst) →
            ((0 : Int) ≤ n98 ∧ n98 ≤ (4294967295 : Int)) →
            ∀ (n101 : Int),
            (n101 = IntKind.u32.wrap (f + n98)) →
            ((0 : Int) ≤ n101 ∧ n101 ≤ (4294967295 : Int)) →
            br (n95 != n101)
             ((k (AV.bool false) [] []))
             (∀ (n104 : Int),
              (n104 = IntKind.i64.wrap (v_90.snd.fst + (1 : Int))) →
              ((-9223372036854775808 : Int) ≤ n104 ∧ n104 ≤ (9223372036854775807 : Int)) →
              ∀ (n107 : Int),
              (n107 = IntKind.i64.wrap (v_90.fst + (1 : Int))) →
              ((-9223372036854775808 : Int) ≤ n107 ∧ n107 ≤ (9223372036854775807 : Int)) →
              ∃ (v' : Int × Int × Int × Nat × List Msg × Bool × Int × Int),
              (f = f) ∧
              (cuts = cuts) ∧
              (again = again) ∧
              (true = true) ∧
              (n104 = v'.snd.fst) ∧
              (v_90.snd.snd.fst = v'.snd.snd.fst) ∧
              ((0 : Nat) = (0 : Nat)) ∧
              (v_90.snd.snd.snd.fst = v'.snd.snd.snd.fst) ∧
              (n107 = v'.fst) ∧
              (v_90.snd.snd.snd.snd.fst = v'.snd.snd.snd.snd.fst) ∧
              (v_90.snd.snd.snd.snd.snd.fst = v'.snd.snd.snd.snd.snd.fst) ∧
              (v_90.snd.snd.snd.snd.snd.snd.fst = v'.snd.snd.snd.snd.snd.snd.fst) ∧
              (v_90.snd.snd.snd.snd.snd.snd.snd = v'.snd.snd.snd.snd.snd.snd.snd) ∧
              (
               (
                ((0 : Int) ≤ v'.fst) ∧
                (v'.fst ≤ (↑v'.snd.snd.snd.fst : Int))) ∧
               (v'.snd.snd.snd.snd.fst.length = v'.snd.snd.snd.fst) ∧
               (
                ((0 : Int) ≤ v'.snd.snd.fst) ∧
                (v'.snd.snd.fst < (↑cuts.length : Int)) ∧
                (v'.snd.snd.fst = (↑v_5.fst.toNat : Int))) ∧
               (v'.snd.fst + ((↑v'.snd.snd.snd.fst : Int) - v'.fst) = v'.snd.snd.fst + (1 : Int)) ∧
               (v'.fst ≤ v'.snd.fst) ∧
               (
                ∀ (j_110 : Nat),
                (j_110 < v'.snd.snd.snd.fst) →
                ((↑(v'.snd.snd.snd.snd.fst.getD j_110 (dflt (8 : Nat))).seq.toNat : Int) = f + (v'.snd.fst - v'.fst) + (↑j_110 : Int))) ∧
               ((v'.snd.snd.snd.snd.snd.fst, v'.snd.snd.snd.snd.snd.snd.fst) = st f (v'.snd.snd.fst + (1 : Int))) ∧
               (
                ((0 : Int) ≤ v'.snd.snd.snd.snd.snd.snd.fst) ∧
                (v'.snd.snd.snd.snd.snd.snd.fst ≤ (4294967295 : Int))) ∧
               ((0 : Int) ≤ v'.snd.snd.snd.snd.snd.snd.snd) ∧
               (v'.snd.snd.snd.snd.snd.snd.snd ≤ (1048576 : Int))) ∧
              (((↑v'.snd.snd.snd.fst : Int) - v'.fst).toNat < ((↑v_90.snd.snd.snd.fst : Int) - v_90.fst).toNat)))
           (∀ (n112 : Int),
            (n112 = IntKind.i64.wrap (v_90.snd.snd.fst + (1 : Int))) →
            ((-9223372036854775808 : Int) ≤ n112 ∧ n112 ≤ (9223372036854775807 : Int)) →
            ∃ (v' : Int × Int × Bool × Int × Int × List Msg),
            (f = f) ∧
            (cuts = cuts) ∧
            (again = again) ∧
            (true = true) ∧
            ((0 : Nat) = (0 : Nat)) ∧
            ((0 : Nat) = v'.snd.snd.snd.snd.snd.length) ∧
            (v_90.snd.fst = v'.snd.fst) ∧
            (n112 = v'.fst) ∧
            (v_90.snd.snd.snd.snd.snd.fst = v'.snd.snd.fst) ∧
            (v_90.snd.snd.snd.snd.snd.snd.fst = v'.snd.snd.snd.fst) ∧
            (v_90.snd.snd.snd.snd.snd.snd.snd = v'.snd.snd.snd.snd.fst) ∧
            ([] = v'.snd.snd.snd.snd.snd) ∧
            (
             (
              ((0 : Int) ≤ v'.snd.fst) ∧
              (v'.snd.fst ≤ v'.fst) ∧
              (v'.fst ≤ (↑cuts.length : Int))) ∧
             (
              ((0 : Int) ≤ v'.snd.snd.snd.fst) ∧
              (v'.snd.snd.snd.fst ≤ (4294967295 : Int))) ∧
             (
              ((0 : Int) ≤ v'.snd.snd.snd.snd.fst) ∧
              (v'.snd.snd.snd.snd.fst ≤ (1048576 : Int))) ∧
             ((v'.snd.snd.fst, v'.snd.snd.snd.fst) = st f v'.snd.fst) ∧
             (Pend f v'.fst v'.snd.fst v'.snd.snd.snd.snd.snd) ∧
             ((v'.fst = (↑cuts.length : Int)) →
             (v'.snd.fst = v'.fst))) ∧
            (((↑cuts.length : Int) - v'.fst).toNat < ((↑cuts.length : Int) - v_5.fst).toNat)))))
       (((0 : Int) ≤ v_5.fst) ∧
        (v_5.fst < (↑cuts.length : Int)) ∧
        ∀ (n116 : Int),
        (n116 = IntKind.i64.wrap (v_5.fst + (1 : Int))) →
        ∀ (n118 : Int),
        (n118 = (↑cuts.length : Int)) →
        br (bif !cuts.getD v_5.fst.toNat false then decide (n116 < n118) else false)
         (∀ (n120 : Int),
          (n120 = IntKind.i64.wrap (v_5.fst + (1 : Int))) →
          ((-9223372036854775808 : Int) ≤ n120 ∧ n120 ≤ (9223372036854775807 : Int)) →
          ∃ (v' : Int × Int × Bool × Int × Int × List Msg),
          (f = f) ∧
          (cuts = cuts) ∧
          (again = again) ∧
          (true = true) ∧
          ((0 : Nat) = (0 : Nat)) ∧
          (v_5.snd.snd.snd.snd.snd.length + n_17 = v'.snd.snd.snd.snd.snd.length) ∧
          (v_5.snd.fst = v'.snd.fst) ∧
          (n120 = v'.fst) ∧
          (v_5.snd.snd.fst = v'.snd.snd.fst) ∧
          (v_5.snd.snd.snd.fst = v'.snd.snd.snd.fst) ∧
          (v_5.snd.snd.snd.snd.fst = v'.snd.snd.snd.snd.fst) ∧
          (z20 = v'.snd.snd.snd.snd.snd) ∧
          (
           (
            ((0 : Int) ≤ v'.snd.fst) ∧
            (v'.snd.fst ≤ v'.fst) ∧
            (v'.fst ≤ (↑cuts.length : Int))) ∧
           (
            ((0 : Int) ≤ v'.snd.snd.snd.fst) ∧
            (v'.snd.snd.snd.fst ≤ (4294967295 : Int))) ∧
           (
            ((0 : Int) ≤ v'.snd.snd.snd.snd.fst) ∧
            (v'.snd.snd.snd.snd.fst ≤ (1048576 : Int))) ∧
           ((v'.snd.snd.fst, v'.snd.snd.snd.fst) = st f v'.snd.fst) ∧
           (Pend f v'.fst v'.snd.fst v'.snd.snd.snd.snd.snd) ∧
           ((v'.fst = (↑cuts.length : Int)) →
           (v'.snd.fst = v'.fst))) ∧
          (((↑cuts.length : Int) - v'.fst).toNat < ((↑cuts.length : Int) - v_5.fst).toNat))
         ((
           ((0 : Int) ≤ v_5.snd.snd.snd.fst) ∧
           (v_5.snd.snd.snd.fst ≤ (4294967295 : Int))) ∧
          (
           ((-9223372036854775808 : Int) ≤ v_5.snd.snd.snd.snd.fst) ∧
           (v_5.snd.snd.snd.snd.fst ≤ (9223372036854775807 : Int))) ∧
          (
           ∀ (e_124 : Int),
           (e_124 = lE v_5.snd.snd.fst v_5.snd.snd.snd.fst v_5.snd.snd.snd.snd.fst (List.take (v_5.snd.snd.snd.snd.snd.length + n_17) (List.drop (0 : Nat) z20))) →
           (e_124 ≠ (0 : Int)) →
           br (e_124 != (0 : Int))
            ((k (AV.bool false) [] []))
            ((
              ∃ (v : Int × Int × Int × Nat × List Msg × Bool × Int × Int),
              (f = f) ∧
              (cuts = cuts) ∧
              (again = again) ∧
              (true = true) ∧
              (v_5.snd.fst = v.snd.fst) ∧
              (v_5.fst = v.snd.snd.fst) ∧
              (False) ∧
              ((0 : Int) = v.fst) ∧
              (False) ∧
              (false = v.snd.snd.snd.snd.snd.fst) ∧
              ((0 : Int) = v.snd.snd.snd.snd.snd.snd.fst) ∧
              ((0 : Int) = v.snd.snd.snd.snd.snd.snd.snd) ∧
              (
               ((0 : Int) ≤ v.fst) ∧
               (v.fst ≤ (↑v.snd.snd.snd.fst : Int))) ∧
              (v.snd.snd.snd.snd.fst.length = v.snd.snd.snd.fst) ∧
              (
               ((0 : Int) ≤ v.snd.snd.fst) ∧
               (v.snd.snd.fst < (↑cuts.length : Int)) ∧
               (v.snd.snd.fst = (↑v_5.fst.toNat : Int))) ∧
              (v.snd.fst + ((↑v.snd.snd.snd.fst : Int) - v.fst) = v.snd.snd.fst + (1 : Int)) ∧
              (v.fst ≤ v.snd.fst) ∧
              (
               ∀ (j_127 : Nat),
               (j_127 < v.snd.snd.snd.fst) →
               ((↑(v.snd.snd.snd.snd.fst.getD j_127 (dflt (8 : Nat))).seq.toNat : Int) = f + (v.snd.fst - v.fst) + (↑j_127 : Int))) ∧
              ((v.snd.snd.snd.snd.snd.fst, v.snd.snd.snd.snd.snd.snd.fst) = st f (v.snd.snd.fst + (1 : Int))) ∧
              (
               ((0 : Int) ≤ v.snd.snd.snd.snd.snd.snd.fst) ∧
               (v.snd.snd.snd.snd.snd.snd.fst ≤ (4294967295 : Int))) ∧
              ((0 : Int) ≤ v.snd.snd.snd.snd.snd.snd.snd) ∧
              (v.snd.snd.snd.snd.snd.snd.snd ≤ (1048576 : Int))) ∧
             ∀ (v_129 : Int × Int × Int × Nat × List Msg × Bool × Int × Int),
             (((0 : Int) ≤ v_129.fst ∧ v_129.fst ≤ (↑v_129.snd.snd.snd.fst : Int)) ∧ v_129.snd.snd.snd.snd.fst.length = v_129.snd.snd.snd.fst ∧ ((0 : Int) ≤ v_129.snd.snd.fst ∧ v_129.snd.snd.fst < (↑cuts.length : Int) ∧ v_129.snd.snd.fst = (↑v_5.fst.toNat : Int)) ∧ v_129.snd.fst + ((↑v_129.snd.snd.snd.fst : Int) - v_129.fst) = v_129.snd.snd.fst + (1 : Int) ∧ v_129.fst ≤ v_129.snd.fst ∧ (∀ (j : Nat), j < v_129.snd.snd.snd.fst → (↑(v_129.snd.snd.snd.snd.fst.getD j (dflt (8 : Nat))).seq.toNat : Int) = f + (v_129.snd.fst - v_129.fst) + (↑j : Int)) ∧ (v_129.snd.snd.snd.snd.snd.fst, v_129.snd.snd.snd.snd.snd.snd.fst) = st f (v_129.snd.snd.fst + (1 : Int)) ∧ ((0 : Int) ≤ v_129.snd.snd.snd.snd.snd.snd.fst ∧ v_129.snd.snd.snd.snd.snd.snd.fst ≤ (4294967295 : Int)) ∧ (0 : Int) ≤ v_129.snd.snd.snd.snd.snd.snd.snd ∧ v_129.snd.snd.snd.snd.snd.snd.snd ≤ (1048576 : Int)) →
             ∀ (n131 : Int),
             (n131 = (↑v_129.snd.snd.snd.fst : Int)) →
             ((-9223372036854775808 : Int) ≤ n131 ∧ n131 ≤ (9223372036854775807 : Int)) →
             br (decide (v_129.fst < n131))
              (((0 : Int) ≤ v_129.fst) ∧
               (v_129.fst < (↑v_129.snd.snd.snd.fst : Int)) ∧
               ((0 : Nat) + v_129.fst.toNat < v_129.snd.snd.snd.snd.fst.length) ∧
               ∀ (n134 : Int),
               (n134 = (↑(v_129.snd.snd.snd.snd.fst.getD ((0 : Nat) + v_129.fst.toNat) (dflt (8 : Nat))).seq.toNat : Int)) →
               ((0 : Int) ≤ n134 ∧ n134 ≤ (4294967295 : Int)) →
               ∀ (n137 : Int),
               (n137 = IntKind.u32.wrap v_129.snd.fst) →
               ((0 : Int) ≤ n137 ∧ n137 ≤ (4294967295 : Int)) →
               ∀ (n140 : Int),
               (n140 = IntKind.u32.wrap (f + n137)) →
               ((0 : Int) ≤ n140 ∧ n140 ≤ (4294967295 : Int)) →
               br (n134 != n140)
                ((k (AV.bool false) [] []))
                (∀ (n143 : Int),
                 (n143 = IntKind.i64.wrap (v_129.snd.fst + (1 : Int))) →
                 ((-9223372036854775808 : Int) ≤ n143 ∧ n143 ≤ (9223372036854775807 : Int)) →
                 ∀ (n146 : Int),
                 (n146 = IntKind.i64.wrap (v_129.fst + (1 : Int))) →
                 ((-9223372036854775808 : Int) ≤ n146 ∧ n146 ≤ (9223372036854775807 : Int)) →
                 ∃ (v' : Int × Int × Int × Nat × List Msg × Bool × Int × Int),
                 (f = f) ∧
                 (cuts = cuts) ∧
                 (again = again) ∧
                 (true = true) ∧
                 (n143 = v'.snd.fst) ∧
                 (v_129.snd.snd.fst = v'.snd.snd.fst) ∧
                 ((0 : Nat) = (0 : Nat)) ∧
                 (v_129.snd.snd.snd.fst = v'.snd.snd.snd.fst) ∧
                 (n146 = v'.fst) ∧
                 (v_129.snd.snd.snd.snd.fst = v'.snd.snd.snd.snd.fst) ∧
                 (v_129.snd.snd.snd.snd.snd.fst = v'.snd.snd.snd.snd.snd.fst) ∧
                 (v_129.snd.snd.snd.snd.snd.snd.fst = v'.snd.snd.snd.snd.snd.snd.fst) ∧
                 (v_129.snd.snd.snd.snd.snd.snd.snd = v'.snd.snd.snd.snd.snd.snd.snd) ∧
                 (
                  (
                   ((0 : Int) ≤ v'.fst) ∧
                   (v'.fst ≤ (↑v'.snd.snd.snd.fst : Int))) ∧
                  (v'.snd.snd.snd.snd.fst.length = v'.snd.snd.snd.fst) ∧
                  (
                   ((0 : Int) ≤ v'.snd.snd.fst) ∧
                   (v'.snd.snd.fst < (↑cuts.length : Int)) ∧
                   (v'.snd.snd.fst = (↑v_5.fst.toNat : Int))) ∧
                  (v'.snd.fst + ((↑v'.snd.snd.snd.fst : Int) - v'.fst) = v'.snd.snd.fst + (1 : Int)) ∧
                  (v'.fst ≤ v'.snd.fst) ∧
                  (
                   ∀ (j_149 : Nat),
                   (j_149 < v'.snd.snd.snd.fst) →
                   ((↑(v'.snd.snd.snd.snd.fst.getD j_149 (dflt (8 : Nat))).seq.toNat : Int) = f + (v'.snd.fst - v'.fst) + (↑j_149 : Int))) ∧
                  ((v'.snd.snd.snd.snd.snd.fst, v'.snd.snd.snd.snd.snd.snd.fst) = st f (v'.snd.snd.fst + (1 : Int))) ∧
                  (
                   ((0 : Int) ≤ v'.snd.snd.snd.snd.snd.snd.fst) ∧
                   (v'.snd.snd.snd.snd.snd.snd.fst ≤ (4294967295 : Int))) ∧
                  ((0 : Int) ≤ v'.snd.snd.snd.snd.snd.snd.snd) ∧
                  (v'.snd.snd.snd.snd.snd.snd.snd ≤ (1048576 : Int))) ∧
                 (((↑v'.snd.snd.snd.fst : Int) - v'.fst).toNat < ((↑v_129.snd.snd.snd.fst : Int) - v_129.fst).toNat)))
              (∀ (n151 : Int),
               (n151 = IntKind.i64.wrap (v_129.snd.snd.fst + (1 : Int))) →
               ((-9223372036854775808 : Int) ≤ n151 ∧ n151 ≤ (9223372036854775807 : Int)) →
               ∃ (v' : Int × Int × Bool × Int × Int × List Msg),
               (f = f) ∧
               (cuts = cuts) ∧
               (again = again) ∧
               (true = true) ∧
               ((0 : Nat) = (0 : Nat)) ∧
               ((0 : Nat) = v'.snd.snd.snd.snd.snd.length) ∧
               (v_129.snd.fst = v'.snd.fst) ∧
               (n151 = v'.fst) ∧
               (v_129.snd.snd.snd.snd.snd.fst = v'.snd.snd.fst) ∧
               (v_129.snd.snd.snd.snd.snd.snd.fst = v'.snd.snd.snd.fst) ∧
               (v_129.snd.snd.snd.snd.snd.snd.snd = v'.snd.snd.snd.snd.fst) ∧
               ([] = v'.snd.snd.snd.snd.snd) ∧
               (
                (
                 ((0 : Int) ≤ v'.snd.fst) ∧
                 (v'.snd.fst ≤ v'.fst) ∧
                 (v'.fst ≤ (↑cuts.length : Int))) ∧
                (
                 ((0 : Int) ≤ v'.snd.snd.snd.fst) ∧
                 (v'.snd.snd.snd.fst ≤ (4294967295 : Int))) ∧
                (
                 ((0 : Int) ≤ v'.snd.snd.snd.snd.fst) ∧
                 (v'.snd.snd.snd.snd.fst ≤ (1048576 : Int))) ∧
                ((v'.snd.snd.fst, v'.snd.snd.snd.fst) = st f v'.snd.fst) ∧
                (Pend f v'.fst v'.snd.fst v'.snd.snd.snd.snd.snd) ∧
                ((v'.fst = (↑cuts.length : Int)) →
                (v'.snd.fst = v'.fst))) ∧
               (((↑cuts.length : Int) - v'.fst).toNat < ((↑cuts.length : Int) - v_5.fst).toNat)))) ∧
          ((lE v_5.snd.snd.fst v_5.snd.snd.snd.fst v_5.snd.snd.snd.snd.fst (List.take (v_5.snd.snd.snd.snd.snd.length + n_17) (List.drop (0 : Nat) z20)) = (0 : Int)) →
          ∀ (b_156 : Bool),
          ∀ (l_157 : Int),
          ∀ (a_158 : Int),
          ∀ (ys_159 : List Msg),
          ∀ (n_160 : Nat),
          ((b_156, l_157) = stk (v_5.snd.snd.fst, v_5.snd.snd.snd.fst) (List.take (v_5.snd.snd.snd.snd.snd.length + n_17) (List.drop (0 : Nat) z20))) →
          ((0 : Int) ≤ l_157 ∧ l_157 ≤ (4294967295 : Int)) →
          (ys_159 = tk (v_5.snd.snd.fst, v_5.snd.snd.snd.fst) (List.take (v_5.snd.snd.snd.snd.snd.length + n_17) (List.drop (0 : Nat) z20))) →
          (ys_159.length = n_160) →
          (a_158 = ageN v_5.snd.snd.snd.snd.fst n_160) →
          (
           ∃ (v : Int × Int × Int × Nat × List Msg × Bool × Int × Int),
           (f = f) ∧
           (cuts = cuts) ∧
           (again = again) ∧
           (true = true) ∧
           (v_5.snd.fst = v.snd.fst) ∧
           (v_5.fst = v.snd.snd.fst) ∧
           ((0 : Nat) = (0 : Nat)) ∧
           (n_160 = v.snd.snd.snd.fst) ∧
           ((0 : Int) = v.fst) ∧
           (ys_159 = v.snd.snd.snd.snd.fst) ∧
           (b_156 = v.snd.snd.snd.snd.snd.fst) ∧
           (l_157 = v.snd.snd.snd.snd.snd.snd.fst) ∧
           (a_158 = v.snd.snd.snd.snd.snd.snd.snd) ∧
           (
            ((0 : Int) ≤ v.fst) ∧
            (v.fst ≤ (↑v.snd.snd.snd.fst : Int))) ∧
           (v.snd.snd.snd.snd.fst.length = v.snd.snd.snd.fst) ∧
           (
            ((0 : Int) ≤ v.snd.snd.fst) ∧
            (v.snd.snd.fst < (↑cuts.length : Int)) ∧
            (v.snd.snd.fst = (↑v_5.fst.toNat : Int))) ∧
           (v.snd.fst + ((↑v.snd.snd.snd.fst : Int) - v.fst) = v.snd.snd.fst + (1 : Int)) ∧
           (v.fst ≤ v.snd.fst) ∧
           (
            ∀ (j_166 : Nat),
            (j_166 < v.snd.snd.snd.fst) →
            ((↑(v.snd.snd.snd.snd.fst.getD j_166 (dflt (8 : Nat))).seq.toNat : Int) = f + (v.snd.fst - v.fst) + (↑j_166 : Int))) ∧
           ((v.snd.snd.snd.snd.snd.fst, v.snd.snd.snd.snd.snd.snd.fst) = st f (v.snd.snd.fst + (1 : Int))) ∧
           (
            ((0 : Int) ≤ v.snd.snd.snd.snd.snd.snd.fst) ∧
            (v.snd.snd.snd.snd.snd.snd.fst ≤ (4294967295 : Int))) ∧
           ((0 : Int) ≤ v.snd.snd.snd.snd.snd.snd.snd) ∧
           (v.snd.snd.snd.snd.snd.snd.snd ≤ (1048576 : Int))) ∧
          ∀ (v_168 : Int × Int × Int × Nat × List Msg × Bool × Int × Int),
          (((0 : Int) ≤ v_168.fst ∧ v_168.fst ≤ (↑v_168.snd.snd.snd.fst : Int)) ∧ v_168.snd.snd.snd.snd.fst.length = v_168.snd.snd.snd.fst ∧ ((0 : Int) ≤ v_168.snd.snd.fst ∧ v_168.snd.snd.fst < (↑cuts.length : Int) ∧ v_168.snd.snd.fst = (↑v_5.fst.toNat : Int)) ∧ v_168.snd.fst + ((↑v_168.snd.snd.snd.fst : Int) - v_168.fst) = v_168.snd.snd.fst + (1 : Int) ∧ v_168.fst ≤ v_168.snd.fst ∧ (∀ (j : Nat), j < v_168.snd.snd.snd.fst → (↑(v_168.snd.snd.snd.snd.fst.getD j (dflt (8 : Nat))).seq.toNat : Int) = f + (v_168.snd.fst - v_168.fst) + (↑j : Int)) ∧ (v_168.snd.snd.snd.snd.snd.fst, v_168.snd.snd.snd.snd.snd.snd.fst) = st f (v_168.snd.snd.fst + (1 : Int)) ∧ ((0 : Int) ≤ v_168.snd.snd.snd.snd.snd.snd.fst ∧ v_168.snd.snd.snd.snd.snd.snd.fst ≤ (4294967295 : Int)) ∧ (0 : Int) ≤ v_168.snd.snd.snd.snd.snd.snd.snd ∧ v_168.snd.snd.snd.snd.snd.snd.snd ≤ (1048576 : Int)) →
          ∀ (n170 : Int),
          (n170 = (↑v_168.snd.snd.snd.fst : Int)) →
          ((-9223372036854775808 : Int) ≤ n170 ∧ n170 ≤ (9223372036854775807 : Int)) →
          br (decide (v_168.fst < n170))
           (((0 : Int) ≤ v_168.fst) ∧
            (v_168.fst < (↑v_168.snd.snd.snd.fst : Int)) ∧
            ((0 : Nat) + v_168.fst.toNat < v_168.snd.snd.snd.snd.fst.length) ∧
            ∀ (n173 : Int),
            (n173 = (↑(v_168.snd.snd.snd.snd.fst.getD ((0 : Nat) + v_168.fst.toNat) (dflt (8 : Nat))).seq.toNat : Int)) →
            ((0 : Int) ≤ n173 ∧ n173 ≤ (4294967295 : Int)) →
            ∀ (n176 : Int),
            (n176 = IntKind.u32.wrap v_168.snd.fst) →
            ((0 : Int) ≤ n176 ∧ n176 ≤ (4294967295 : Int)) →
            ∀ (n179 : Int),
            (n179 = IntKind.u32.wrap (f + n176)) →
            ((0 : Int) ≤ n179 ∧ n179 ≤ (4294967295 : Int)) →
            br (n173 != n179)
             ((k (AV.bool false) [] []))
             (∀ (n182 : Int),
              (n182 = IntKind.i64.wrap (v_168.snd.fst + (1 : Int))) →
              ((-9223372036854775808 : Int) ≤ n182 ∧ n182 ≤ (9223372036854775807 : Int)) →
              ∀ (n185 : Int),
              (n185 = IntKind.i64.wrap (v_168.fst + (1 : Int))) →
              ((-9223372036854775808 : Int) ≤ n185 ∧ n185 ≤ (9223372036854775807 : Int)) →
              ∃ (v' : Int × Int × Int × Nat × List Msg × Bool × Int × Int),
              (f = f) ∧
              (cuts = cuts) ∧
              (again = again) ∧
              (true = true) ∧
              (n182 = v'.snd.fst) ∧
              (v_168.snd.snd.fst = v'.snd.snd.fst) ∧
              ((0 : Nat) = (0 : Nat)) ∧
              (v_168.snd.snd.snd.fst = v'.snd.snd.snd.fst) ∧
              (n185 = v'.fst) ∧
              (v_168.snd.snd.snd.snd.fst = v'.snd.snd.snd.snd.fst) ∧
              (v_168.snd.snd.snd.snd.snd.fst = v'.snd.snd.snd.snd.snd.fst) ∧
              (v_168.snd.snd.snd.snd.snd.snd.fst = v'.snd.snd.snd.snd.snd.snd.fst) ∧
              (v_168.snd.snd.snd.snd.snd.snd.snd = v'.snd.snd.snd.snd.snd.snd.snd) ∧
              (
               (
                ((0 : Int) ≤ v'.fst) ∧
                (v'.fst ≤ (↑v'.snd.snd.snd.fst : Int))) ∧
               (v'.snd.snd.snd.snd.fst.length = v'.snd.snd.snd.fst) ∧
               (
                ((0 : Int) ≤ v'.snd.snd.fst) ∧
                (v'.snd.snd.fst < (↑cuts.length : Int)) ∧
                (v'.snd.snd.fst = (↑v_5.fst.toNat : Int))) ∧
               (v'.snd.fst + ((↑v'.snd.snd.snd.fst : Int) - v'.fst) = v'.snd.snd.fst + (1 : Int)) ∧
               (v'.fst ≤ v'.snd.fst) ∧
               (
                ∀ (j_188 : Nat),
                (j_188 < v'.snd.snd.snd.fst) →
                ((↑(v'.snd.snd.snd.snd.fst.getD j_188 (dflt (8 : Nat))).seq.toNat : Int) = f + (v'.snd.fst - v'.fst) + (↑j_188 : Int))) ∧
               ((v'.snd.snd.snd.snd.snd.fst, v'.snd.snd.snd.snd.snd.snd.fst) = st f (v'.snd.snd.fst + (1 : Int))) ∧
               (
                ((0 : Int) ≤ v'.snd.snd.snd.snd.snd.snd.fst) ∧
                (v'.snd.snd.snd.snd.snd.snd.fst ≤ (4294967295 : Int))) ∧
               ((0 : Int) ≤ v'.snd.snd.snd.snd.snd.snd.snd) ∧
               (v'.snd.snd.snd.snd.snd.snd.snd ≤ (1048576 : Int))) ∧
              (((↑v'.snd.snd.snd.fst : Int) - v'.fst).toNat < ((↑v_168.snd.snd.snd.fst : Int) - v_168.fst).toNat)))
           (∀ (n190 : Int),
            (n190 = IntKind.i64.wrap (v_168.snd.snd.fst + (1 : Int))) →
            ((-9223372036854775808 : Int) ≤ n190 ∧ n190 ≤ (9223372036854775807 : Int)) →
            ∃ (v' : Int × Int × Bool × Int × Int × List Msg),
            (f = f) ∧
            (cuts = cuts) ∧
            (again = again) ∧
            (true = true) ∧
            ((0 : Nat) = (0 : Nat)) ∧
            ((0 : Nat) = v'.snd.snd.snd.snd.snd.length) ∧
            (v_168.snd.fst = v'.snd.fst) ∧
            (n190 = v'.fst) ∧
            (v_168.snd.snd.snd.snd.snd.fst = v'.snd.snd.fst) ∧
            (v_168.snd.snd.snd.snd.snd.snd.fst = v'.snd.snd.snd.fst) ∧
            (v_168.snd.snd.snd.snd.snd.snd.snd = v'.snd.snd.snd.snd.fst) ∧
            ([] = v'.snd.snd.snd.snd.snd) ∧
            (
             (
              ((0 : Int) ≤ v'.snd.fst) ∧
              (v'.snd.fst ≤ v'.fst) ∧
              (v'.fst ≤ (↑cuts.length : Int))) ∧
             (
              ((0 : Int) ≤ v'.snd.snd.snd.fst) ∧
              (v'.snd.snd.snd.fst ≤ (4294967295 : Int))) ∧
             (
              ((0 : Int) ≤ v'.snd.snd.snd.snd.fst) ∧
              (v'.snd.snd.snd.snd.fst ≤ (1048576 : Int))) ∧
             ((v'.snd.snd.fst, v'.snd.snd.snd.fst) = st f v'.snd.fst) ∧
             (Pend f v'.fst v'.snd.fst v'.snd.snd.snd.snd.snd) ∧
             ((v'.fst = (↑cuts.length : Int)) →
             (v'.snd.fst = v'.fst))) ∧
            (((↑cuts.length : Int) - v'.fst).toNat < ((↑cuts.length : Int) - v_5.fst).toNat))))))
     (∀ (n194 : Int),
      (n194 = (↑cuts.length : Int)) →
      (k (AV.bool (bif true then v_5.snd.fst == n194 else false)) [] []))) := by
  intro n1
  intro q1 -- n1 = (↑cuts.length : Int)
  intro ⟨l1, u1⟩ -- (-9223372036854775808 : Int) ≤ n1 ∧ n1 ≤ (9223372036854775807 : Int)
  refine br_intro (fun c1 => ?_) (fun c1 => ?_) -- bif decide (n1 > (40 : Int)) then true else decide (f > (2147483648 : Int))
  · -- yes
    simp at c1 -- (40 : Int) < n1 ∨ (2147483648 : Int) < f
    exact by exact hk -- k (AV.bool true) [] []
  · -- no
    simp at c1 -- n1 ≤ (40 : Int) ∧ f ≤ (2147483648 : Int)
    refine ⟨?_, ?_⟩
    · -- left
      refine ⟨((0 : Int), (0 : Int), false, (0 : Int), (0 : Int), []), ?_⟩
      refine ⟨by first | with_reducible rfl | rfl, ?_⟩ -- f = f
      refine ⟨by first | with_reducible rfl | rfl, ?_⟩ -- cuts = cuts
      refine ⟨by first | with_reducible rfl | rfl, ?_⟩ -- again = again
      refine ⟨by first | with_reducible rfl | rfl, ?_⟩ -- true = true
      refine ⟨by first | with_reducible rfl | rfl, ?_⟩ -- (0 : Nat) = (0 : Nat)
      refine ⟨by first | with_reducible rfl | rfl, ?_⟩ -- (0 : Nat) = (0 : Nat)
      refine ⟨by first | with_reducible rfl | rfl, ?_⟩ -- (0 : Int) = (0 : Int)
      refine ⟨by first | with_reducible rfl | rfl, ?_⟩ -- (0 : Int) = (0 : Int)
      refine ⟨by first | with_reducible rfl | rfl, ?_⟩ -- false = false
      refine ⟨by first | with_reducible rfl | rfl, ?_⟩ -- (0 : Int) = (0 : Int)
      refine ⟨by first | with_reducible rfl | rfl, ?_⟩ -- (0 : Int) = (0 : Int)
      refine ⟨by first | with_reducible rfl | rfl, ?_⟩ -- [] = []
      refine ⟨?_, ?_⟩
      · -- left
        refine ⟨by show (0 : Int) ≤ (0 : Int); omega, ?_⟩ -- (0 : Int) ≤ (0 : Int)
        refine ⟨by show (0 : Int) ≤ (0 : Int); omega, ?_⟩ -- (0 : Int) ≤ (0 : Int)
        exact by show (0 : Int) ≤ (↑cuts.length : Int); omega -- (0 : Int) ≤ (↑cuts.length : Int)
      refine ⟨by first | omega | (dsimp only; omega), ?_⟩ -- (0 : Int) ≤ (0 : Int) ∧ (0 : Int) ≤ (4294967295 : Int)
      refine ⟨by first | omega | (dsimp only; omega), ?_⟩ -- (0 : Int) ≤ (0 : Int) ∧ (0 : Int) ≤ (1048576 : Int)
      refine ⟨by rfl, ?_⟩ -- (false, (0 : Int)) = st f (0 : Int)
      have h2 : Pend f (0 : Int) (0 : Int) [] := by
        exact pend_nil (by omega)
      refine ⟨h2, ?_⟩
      intro h3 -- (0 : Int) = (↑cuts.length : Int)
      exact by first | with_reducible rfl | rfl -- (0 : Int) = (0 : Int)
    intro v_5
    intro h4 -- ((0 : Int) ≤ v_5.snd.fst ∧ v_5.snd.fst ≤ v_5.fst ∧ v_5.fst ≤ (↑cuts.length : Int)) ∧ ((0 : Int) ≤ v_5.snd.snd.snd.fst ∧ v_5.snd.snd.snd.fst ≤ (4294967295 : Int)) ∧ ((0 : Int) ≤ v_5.snd.snd.snd.snd.fst ∧ v_5.snd.snd.snd.snd.fst ≤ (1048576 : Int)) ∧ (v_5.snd.snd.fst, v_5.snd.snd.snd.fst) = st f v_5.snd.fst ∧ Pend f v_5.fst v_5.snd.fst v_5.snd.snd.snd.snd.snd ∧ (v_5.fst = (↑cuts.length : Int) → v_5.snd.fst = v_5.fst)
    intro n7
    intro q7 -- n7 = (↑cuts.length : Int)
    intro ⟨l7, u7⟩ -- (-9223372036854775808 : Int) ≤ n7 ∧ n7 ≤ (9223372036854775807 : Int)
    refine brd (fun c5 => ?_) (fun c5 => ?_) -- decide (v_5.fst < n7)
    · -- yes
      intro n10
      intro q10 -- n10 = IntKind.u32.wrap v_5.fst
      rw [IntKind.wrap_u32] at q10
      intro ⟨l10, u10⟩ -- (0 : Int) ≤ n10 ∧ n10 ≤ (4294967295 : Int)
      intro n13
      intro q13 -- n13 = IntKind.u32.wrap (f + n10)
      rw [IntKind.wrap_u32] at q13
      intro ⟨l13, u13⟩ -- (0 : Int) ≤ n13 ∧ n13 ≤ (4294967295 : Int)
      have h6 : (List.take (1 : Nat) (List.drop (0 : Nat) [UInt32.ofNat n13.toNat])).length ≤ (1000000 : Nat) := by
        simp
      refine ⟨h6, ?_⟩
      intro ys_16
      intro n_17
      intro h7 -- ys_16 = List.map msg (List.take (1 : Nat) (List.drop (0 : Nat) [UInt32.ofNat n13.toNat]))
      intro h8 -- ys_16.length = n_17
      have h9 : (v_5.snd.snd.snd.snd.snd.length + n_17) * (32 : Nat) ≤ (140737488355328 : Nat) := by
        have e17 : n_17 = 1 := by rw [← h8, h7]; rfl
        have := h4.2.2.2.2.1.c4
        omega
      refine ⟨h9, ?_⟩
      intro z20
      intro qz20 -- z20 = List.take v_5.snd.snd.snd.snd.snd.length v_5.snd.snd.snd.snd.snd ++ List.take n_17 (List.drop (0 : Nat) ys_16)
      intro n22
      intro q22 -- n22 = (↑again.length : Int)
      intro ⟨l22, u22⟩ -- (-9223372036854775808 : Int) ≤ n22 ∧ n22 ≤ (9223372036854775807 : Int)
      refine ⟨?_, ?_⟩
      · -- left
        intro h10 -- decide (v_5.fst < n22) = true
        simp at h10 -- v_5.fst < n22
        refine ⟨by first | omega | (dsimp only; omega), ?_⟩ -- (0 : Int) ≤ v_5.fst
        exact by omega -- v_5.fst < (↑again.length : Int)
      refine br_intro (fun c11 => ?_) (fun c11 => ?_) -- bif decide (v_5.fst < n22) then again.getD v_5.fst.toNat false else false
      · -- yes
        simp at c11 -- v_5.fst < n22 ∧ again[v_5.fst.toNat]?.getD false = true
        intro n26
        intro q26 -- n26 = IntKind.u32.wrap v_5.fst
        rw [IntKind.wrap_u32] at q26
        intro ⟨l26, u26⟩ -- (0 : Int) ≤ n26 ∧ n26 ≤ (4294967295 : Int)
        intro n29
        intro q29 -- n29 = IntKind.u32.wrap (f + n26)
        rw [IntKind.wrap_u32] at q29
        intro ⟨l29, u29⟩ -- (0 : Int) ≤ n29 ∧ n29 ≤ (4294967295 : Int)
        have h12 : (List.take (2 : Nat) (List.drop (0 : Nat) [UInt32.ofNat n29.toNat, UInt32.ofNat f.toNat])).length ≤ (1000000 : Nat) := by
          simp
        refine ⟨h12, ?_⟩
        intro ys_32
        intro n_33
        intro h13 -- ys_32 = List.map msg (List.take (2 : Nat) (List.drop (0 : Nat) [UInt32.ofNat n29.toNat, UInt32.ofNat f.toNat]))
        intro h14 -- ys_32.length = n_33
        have h15 : (v_5.snd.snd.snd.snd.snd.length + n_17 + n_33) * (32 : Nat) ≤ (140737488355328 : Nat) := by
          have e17 : n_17 = 1 := by rw [← h8, h7]; rfl
          have e33 : n_33 = 2 := by rw [← h14, h13]; rfl
          have := h4.2.2.2.2.1.c4
          omega
        refine ⟨h15, ?_⟩
        intro z36
        intro qz36 -- z36 = List.take (v_5.snd.snd.snd.snd.snd.length + n_17) z20 ++ List.take n_33 (List.drop (0 : Nat) ys_32)
        refine ⟨by first | omega | (dsimp only; omega), ?_⟩ -- (0 : Int) ≤ v_5.fst
        refine ⟨by first | omega | (dsimp only; omega), ?_⟩ -- v_5.fst < (↑cuts.length : Int)
        intro n38
        intro q38 -- n38 = IntKind.i64.wrap (v_5.fst + (1 : Int))
        rw [IntKind.wrap_i64] at q38
        intro n40
        intro q40 -- n40 = (↑cuts.length : Int)
        refine br_intro (fun c16 => ?_) (fun c16 => ?_) -- bif !cuts.getD v_5.fst.toNat false then decide (n38 < n40) else false
        · -- yes
          simp at c16 -- cuts[v_5.fst.toNat]?.getD false = false ∧ n38 < n40
          intro n42
          intro q42 -- n42 = IntKind.i64.wrap (v_5.fst + (1 : Int))
          rw [IntKind.wrap_i64] at q42
          intro ⟨l42, u42⟩ -- (-9223372036854775808 : Int) ≤ n42 ∧ n42 ≤ (9223372036854775807 : Int)
          refine ⟨(n42, v_5.snd.fst, v_5.snd.snd.fst, v_5.snd.snd.snd.fst, v_5.snd.snd.snd.snd.fst, z36), ?_⟩
          refine ⟨by first | with_reducible rfl | rfl, ?_⟩ -- f = f
          refine ⟨by first | with_reducible rfl | rfl, ?_⟩ -- cuts = cuts
          refine ⟨by first | with_reducible rfl | rfl, ?_⟩ -- again = again
          refine ⟨by first | with_reducible rfl | rfl, ?_⟩ -- true = true
          refine ⟨by first | with_reducible rfl | rfl, ?_⟩ -- (0 : Nat) = (0 : Nat)
          have h17 : v_5.snd.snd.snd.snd.snd.length + n_17 + n_33 = z36.length := by
            have e17 : n_17 = 1 := by rw [← h8, h7]; rfl
            have hn13 : n13 = f + v_5.fst := by omega
            have z20e : z20 = v_5.snd.snd.snd.snd.snd ++ [msg (UInt32.ofNat (f + v_5.fst).toNat)] := by
              rw [qz20, h7, e17, hn13, List.take_of_length_le (Nat.le_refl _)]; rfl
            have p20 : Pend f (v_5.fst + 1) v_5.snd.fst z20 := by
              rw [z20e]; exact pend_one h4.2.2.2.2.1 (by omega) h4.1.1 h4.1.2.1 (by omega)
            have e33 : n_33 = 2 := by rw [← h14, h13]; rfl
            have hn29 : n29 = f + v_5.fst := by omega
            have z36e : z36 = z20 ++ [msg (UInt32.ofNat (f + v_5.fst).toNat), msg (UInt32.ofNat f.toNat)] := by
              rw [qz36, h13, e33, hn29, List.take_of_length_le (by rw [z20e]; simp [e17])]; rfl
            have p36 : Pend f (v_5.fst + 1) v_5.snd.fst z36 := by
              rw [z36e, z20e]; exact pend_three h4.2.2.2.2.1 (by omega) h4.1.1 h4.1.2.1 (by omega)
            have l36 : v_5.snd.snd.snd.snd.snd.length + n_17 + n_33 = z36.length := by rw [z36e, z20e]; simp [e17, e33]
            have t36 : List.take (v_5.snd.snd.snd.snd.snd.length + n_17 + n_33) (List.drop 0 z36) = z36 := by rw [List.drop_zero, List.take_of_length_le (by omega)]
            omega
          refine ⟨h17, ?_⟩
          refine ⟨by first | with_reducible rfl | rfl, ?_⟩ -- v_5.snd.fst = v_5.snd.fst
          refine ⟨by first | with_reducible rfl | rfl, ?_⟩ -- n42 = n42
          refine ⟨by first | with_reducible rfl | rfl, ?_⟩ -- v_5.snd.snd.fst = v_5.snd.snd.fst
          refine ⟨by first | with_reducible rfl | rfl, ?_⟩ -- v_5.snd.snd.snd.fst = v_5.snd.snd.snd.fst
          refine ⟨by first | with_reducible rfl | rfl, ?_⟩ -- v_5.snd.snd.snd.snd.fst = v_5.snd.snd.snd.snd.fst
          refine ⟨by first | with_reducible rfl | rfl, ?_⟩ -- z36 = z36
          refine ⟨?_, ?_⟩
          · -- left
            refine ⟨?_, ?_⟩
            · -- left
              refine ⟨by show (0 : Int) ≤ v_5.snd.fst; omega, ?_⟩ -- (0 : Int) ≤ v_5.snd.fst
              refine ⟨by show v_5.snd.fst ≤ n42; omega, ?_⟩ -- v_5.snd.fst ≤ n42
              exact by show n42 ≤ (↑cuts.length : Int); omega -- n42 ≤ (↑cuts.length : Int)
            refine ⟨by first | omega | (dsimp only; omega), ?_⟩ -- (0 : Int) ≤ v_5.snd.snd.snd.fst ∧ v_5.snd.snd.snd.fst ≤ (4294967295 : Int)
            refine ⟨by first | omega | (dsimp only; omega), ?_⟩ -- (0 : Int) ≤ v_5.snd.snd.snd.snd.fst ∧ v_5.snd.snd.snd.snd.fst ≤ (1048576 : Int)
            have h18 : (v_5.snd.snd.fst, v_5.snd.snd.snd.fst) = st f v_5.snd.fst := by
              exact h4.2.2.2.1
            refine ⟨h18, ?_⟩
            have h19 : Pend f n42 v_5.snd.fst z36 := by
              have e17 : n_17 = 1 := by rw [← h8, h7]; rfl
              have hn13 : n13 = f + v_5.fst := by omega
              have z20e : z20 = v_5.snd.snd.snd.snd.snd ++ [msg (UInt32.ofNat (f + v_5.fst).toNat)] := by
                rw [qz20, h7, e17, hn13, List.take_of_length_le (Nat.le_refl _)]; rfl
              have p20 : Pend f (v_5.fst + 1) v_5.snd.fst z20 := by
                rw [z20e]; exact pend_one h4.2.2.2.2.1 (by omega) h4.1.1 h4.1.2.1 (by omega)
              have e33 : n_33 = 2 := by rw [← h14, h13]; rfl
              have hn29 : n29 = f + v_5.fst := by omega
              have z36e : z36 = z20 ++ [msg (UInt32.ofNat (f + v_5.fst).toNat), msg (UInt32.ofNat f.toNat)] := by
                rw [qz36, h13, e33, hn29, List.take_of_length_le (by rw [z20e]; simp [e17])]; rfl
              have p36 : Pend f (v_5.fst + 1) v_5.snd.fst z36 := by
                rw [z36e, z20e]; exact pend_three h4.2.2.2.2.1 (by omega) h4.1.1 h4.1.2.1 (by omega)
              have l36 : v_5.snd.snd.snd.snd.snd.length + n_17 + n_33 = z36.length := by rw [z36e, z20e]; simp [e17, e33]
              have t36 : List.take (v_5.snd.snd.snd.snd.snd.length + n_17 + n_33) (List.drop 0 z36) = z36 := by rw [List.drop_zero, List.take_of_length_le (by omega)]
              rw [show n42 = v_5.fst + 1 by omega]; exact p36
            refine ⟨h19, ?_⟩
            intro h20 -- n42 = (↑cuts.length : Int)
            exact by show v_5.snd.fst = n42; omega -- v_5.snd.fst = n42
          exact by show ((↑cuts.length : Int) - n42).toNat < ((↑cuts.length : Int) - v_5.fst).toNat; omega -- ((↑cuts.length : Int) - n42).toNat < ((↑cuts.length : Int) - v_5.fst).toNat
        · -- no
          simp at c16 -- cuts[v_5.fst.toNat]?.getD false = false → n40 ≤ n38
          refine ⟨by first | omega | (dsimp only; omega), ?_⟩ -- (0 : Int) ≤ v_5.snd.snd.snd.fst ∧ v_5.snd.snd.snd.fst ≤ (4294967295 : Int)
          refine ⟨by first | omega | (dsimp only; omega), ?_⟩ -- (-9223372036854775808 : Int) ≤ v_5.snd.snd.snd.snd.fst ∧ v_5.snd.snd.snd.snd.fst ≤ (9223372036854775807 : Int)
          refine ⟨?_, ?_⟩
          · -- left
            intro e_46
            intro h21 -- e_46 = lE v_5.snd.snd.fst v_5.snd.snd.snd.fst v_5.snd.snd.snd.snd.fst (List.take (v_5.snd.snd.snd.snd.snd.length + n_17 + n_33) (List.drop (0 : Nat) z36))
            intro h22 -- e_46 ≠ (0 : Int)
            refine br_intro (fun c23 => ?_) (fun c23 => ?_) -- e_46 != (0 : Int)
            · -- yes
              simp at c23 -- ¬e_46 = (0 : Int)
              -- k (AV.bool false) [] []
              have e17 : n_17 = 1 := by rw [← h8, h7]; rfl
              have hn13 : n13 = f + v_5.fst := by omega
              have z20e : z20 = v_5.snd.snd.snd.snd.snd ++ [msg (UInt32.ofNat (f + v_5.fst).toNat)] := by
                rw [qz20, h7, e17, hn13, List.take_of_length_le (Nat.le_refl _)]; rfl
              have p20 : Pend f (v_5.fst + 1) v_5.snd.fst z20 := by
                rw [z20e]; exact pend_one h4.2.2.2.2.1 (by omega) h4.1.1 h4.1.2.1 (by omega)
              have e33 : n_33 = 2 := by rw [← h14, h13]; rfl
              have hn29 : n29 = f + v_5.fst := by omega
              have z36e : z36 = z20 ++ [msg (UInt32.ofNat (f + v_5.fst).toNat), msg (UInt32.ofNat f.toNat)] := by
                rw [qz36, h13, e33, hn29, List.take_of_length_le (by rw [z20e]; simp [e17])]; rfl
              have p36 : Pend f (v_5.fst + 1) v_5.snd.fst z36 := by
                rw [z36e, z20e]; exact pend_three h4.2.2.2.2.1 (by omega) h4.1.1 h4.1.2.1 (by omega)
              have l36 : v_5.snd.snd.snd.snd.snd.length + n_17 + n_33 = z36.length := by rw [z36e, z20e]; simp [e17, e33]
              have t36 : List.take (v_5.snd.snd.snd.snd.snd.length + n_17 + n_33) (List.drop 0 z36) = z36 := by rw [List.drop_zero, List.take_of_length_le (by omega)]
              exact absurd (h21.trans (by rw [t36]; exact pend_E p36 h4.2.2.2.1 h4.2.2.1 (by omega))) c23
            · -- no
              simp at c23 -- e_46 = (0 : Int)
              exfalso; omega
          intro h24 -- lE v_5.snd.snd.fst v_5.snd.snd.snd.fst v_5.snd.snd.snd.snd.fst (List.take (v_5.snd.snd.snd.snd.snd.length + n_17 + n_33) (List.drop (0 : Nat) z36)) = (0 : Int)
          intro b_78
          intro l_79
          intro a_80
          intro ys_81
          intro n_82
          intro h25 -- (b_78, l_79) = stk (v_5.snd.snd.fst, v_5.snd.snd.snd.fst) (List.take (v_5.snd.snd.snd.snd.snd.length + n_17 + n_33) (List.drop (0 : Nat) z36))
          intro ⟨a26, b26⟩ -- (0 : Int) ≤ l_79 ∧ l_79 ≤ (4294967295 : Int)
          intro h27 -- ys_81 = tk (v_5.snd.snd.fst, v_5.snd.snd.snd.fst) (List.take (v_5.snd.snd.snd.snd.snd.length + n_17 + n_33) (List.drop (0 : Nat) z36))
          intro h28 -- ys_81.length = n_82
          intro h29 -- a_80 = ageN v_5.snd.snd.snd.snd.fst n_82
          refine ⟨?_, ?_⟩
          · -- left
            refine ⟨((0 : Int), v_5.snd.fst, v_5.fst, n_82, ys_81, b_78, l_79, a_80), ?_⟩
            refine ⟨by first | with_reducible rfl | rfl, ?_⟩ -- f = f
            refine ⟨by first | with_reducible rfl | rfl, ?_⟩ -- cuts = cuts
            refine ⟨by first | with_reducible rfl | rfl, ?_⟩ -- again = again
            refine ⟨by first | with_reducible rfl | rfl, ?_⟩ -- true = true
            refine ⟨by first | with_reducible rfl | rfl, ?_⟩ -- v_5.snd.fst = v_5.snd.fst
            refine ⟨by first | with_reducible rfl | rfl, ?_⟩ -- v_5.fst = v_5.fst
            refine ⟨by first | with_reducible rfl | rfl, ?_⟩ -- (0 : Nat) = (0 : Nat)
            refine ⟨by first | with_reducible rfl | rfl, ?_⟩ -- n_82 = n_82
            refine ⟨by first | with_reducible rfl | rfl, ?_⟩ -- (0 : Int) = (0 : Int)
            refine ⟨by first | with_reducible rfl | rfl, ?_⟩ -- ys_81 = ys_81
            refine ⟨by first | with_reducible rfl | rfl, ?_⟩ -- b_78 = b_78
            refine ⟨by first | with_reducible rfl | rfl, ?_⟩ -- l_79 = l_79
            refine ⟨by first | with_reducible rfl | rfl, ?_⟩ -- a_80 = a_80
            refine ⟨by first | omega | (dsimp only; omega), ?_⟩ -- (0 : Int) ≤ (0 : Int) ∧ (0 : Int) ≤ (↑n_82 : Int)
            refine ⟨by show ys_81.length = n_82; assumption, ?_⟩ -- ys_81.length = n_82
            refine ⟨?_, ?_⟩
            · -- left
              refine ⟨by show (0 : Int) ≤ v_5.fst; omega, ?_⟩ -- (0 : Int) ≤ v_5.fst
              refine ⟨by show v_5.fst < (↑cuts.length : Int); omega, ?_⟩ -- v_5.fst < (↑cuts.length : Int)
              exact by show v_5.fst = (↑v_5.fst.toNat : Int); omega -- v_5.fst = (↑v_5.fst.toNat : Int)
            have h30 : v_5.snd.fst + ((↑n_82 : Int) - (0 : Int)) = v_5.fst + (1 : Int) := by
              have e17 : n_17 = 1 := by rw [← h8, h7]; rfl
              have hn13 : n13 = f + v_5.fst := by omega
              have z20e : z20 = v_5.snd.snd.snd.snd.snd ++ [msg (UInt32.ofNat (f + v_5.fst).toNat)] := by
                rw [qz20, h7, e17, hn13, List.take_of_length_le (Nat.le_refl _)]; rfl
              have p20 : Pend f (v_5.fst + 1) v_5.snd.fst z20 := by
                rw [z20e]; exact pend_one h4.2.2.2.2.1 (by omega) h4.1.1 h4.1.2.1 (by omega)
              have e33 : n_33 = 2 := by rw [← h14, h13]; rfl
              have hn29 : n29 = f + v_5.fst := by omega
              have z36e : z36 = z20 ++ [msg (UInt32.ofNat (f + v_5.fst).toNat), msg (UInt32.ofNat f.toNat)] := by
                rw [qz36, h13, e33, hn29, List.take_of_length_le (by rw [z20e]; simp [e17])]; rfl
              have p36 : Pend f (v_5.fst + 1) v_5.snd.fst z36 := by
                rw [z36e, z20e]; exact pend_three h4.2.2.2.2.1 (by omega) h4.1.1 h4.1.2.1 (by omega)
              have l36 : v_5.snd.snd.snd.snd.snd.length + n_17 + n_33 = z36.length := by rw [z36e, z20e]; simp [e17, e33]
              have t36 : List.take (v_5.snd.snd.snd.snd.snd.length + n_17 + n_33) (List.drop 0 z36) = z36 := by rw [List.drop_zero, List.take_of_length_le (by omega)]
              have L := pend_len p36 h4.2.2.2.1
              rw [t36] at h27
              rw [← h27, h28] at L
              omega
            refine ⟨h30, ?_⟩
            refine ⟨by show (0 : Int) ≤ v_5.snd.fst; omega, ?_⟩ -- (0 : Int) ≤ v_5.snd.fst
            refine ⟨?_, ?_⟩
            · -- left
              intro j_88
              intro h31 -- j_88 < n_82
              -- (↑(ys_81.getD j_88 (dflt (8 : Nat))).seq.toNat : Int) = f + (v_5.snd.fst - (0 : Int)) + (↑j_88 : Int)
              have e17 : n_17 = 1 := by rw [← h8, h7]; rfl
              have hn13 : n13 = f + v_5.fst := by omega
              have z20e : z20 = v_5.snd.snd.snd.snd.snd ++ [msg (UInt32.ofNat (f + v_5.fst).toNat)] := by
                rw [qz20, h7, e17, hn13, List.take_of_length_le (Nat.le_refl _)]; rfl
              have p20 : Pend f (v_5.fst + 1) v_5.snd.fst z20 := by
                rw [z20e]; exact pend_one h4.2.2.2.2.1 (by omega) h4.1.1 h4.1.2.1 (by omega)
              have e33 : n_33 = 2 := by rw [← h14, h13]; rfl
              have hn29 : n29 = f + v_5.fst := by omega
              have z36e : z36 = z20 ++ [msg (UInt32.ofNat (f + v_5.fst).toNat), msg (UInt32.ofNat f.toNat)] := by
                rw [qz36, h13, e33, hn29, List.take_of_length_le (by rw [z20e]; simp [e17])]; rfl
              have p36 : Pend f (v_5.fst + 1) v_5.snd.fst z36 := by
                rw [z36e, z20e]; exact pend_three h4.2.2.2.2.1 (by omega) h4.1.1 h4.1.2.1 (by omega)
              have l36 : v_5.snd.snd.snd.snd.snd.length + n_17 + n_33 = z36.length := by rw [z36e, z20e]; simp [e17, e33]
              have t36 : List.take (v_5.snd.snd.snd.snd.snd.length + n_17 + n_33) (List.drop 0 z36) = z36 := by rw [List.drop_zero, List.take_of_length_le (by omega)]
              have L := pend_len p36 h4.2.2.2.1
              rw [t36] at h27
              rw [← h27, h28] at L
              have hj : j_88 < n_82 := h31
              have A := pend_at p36 h4.2.2.2.1 (j := j_88) (by omega)
              rw [← h27] at A
              show ((ys_81.getD j_88 (dflt 8)).seq.toNat : Int) = f + (v_5.snd.fst - 0) + (j_88 : Int)
              omega
            have h32 : (b_78, l_79) = st f (v_5.fst + (1 : Int)) := by
              have e17 : n_17 = 1 := by rw [← h8, h7]; rfl
              have hn13 : n13 = f + v_5.fst := by omega
              have z20e : z20 = v_5.snd.snd.snd.snd.snd ++ [msg (UInt32.ofNat (f + v_5.fst).toNat)] := by
                rw [qz20, h7, e17, hn13, List.take_of_length_le (Nat.le_refl _)]; rfl
              have p20 : Pend f (v_5.fst + 1) v_5.snd.fst z20 := by
                rw [z20e]; exact pend_one h4.2.2.2.2.1 (by omega) h4.1.1 h4.1.2.1 (by omega)
              have e33 : n_33 = 2 := by rw [← h14, h13]; rfl
              have hn29 : n29 = f + v_5.fst := by omega
              have z36e : z36 = z20 ++ [msg (UInt32.ofNat (f + v_5.fst).toNat), msg (UInt32.ofNat f.toNat)] := by
                rw [qz36, h13, e33, hn29, List.take_of_length_le (by rw [z20e]; simp [e17])]; rfl
              have p36 : Pend f (v_5.fst + 1) v_5.snd.fst z36 := by
                rw [z36e, z20e]; exact pend_three h4.2.2.2.2.1 (by omega) h4.1.1 h4.1.2.1 (by omega)
              have l36 : v_5.snd.snd.snd.snd.snd.length + n_17 + n_33 = z36.length := by rw [z36e, z20e]; simp [e17, e33]
              have t36 : List.take (v_5.snd.snd.snd.snd.snd.length + n_17 + n_33) (List.drop 0 z36) = z36 := by rw [List.drop_zero, List.take_of_length_le (by omega)]
              rw [h25, t36, h4.2.2.2.1]; exact p36.c1
            refine ⟨h32, ?_⟩
            refine ⟨by exact ⟨by assumption, by assumption⟩, ?_⟩ -- (0 : Int) ≤ l_79 ∧ l_79 ≤ (4294967295 : Int)
            have h33 : (0 : Int) ≤ a_80 := by
              exact (pend_age h4.2.2.1 h29).1
            refine ⟨h33, ?_⟩
            -- a_80 ≤ (1048576 : Int)
            exact (pend_age h4.2.2.1 h29).2
          intro v_90
          intro h34 -- ((0 : Int) ≤ v_90.fst ∧ v_90.fst ≤ (↑v_90.snd.snd.snd.fst : Int)) ∧ v_90.snd.snd.snd.snd.fst.length = v_90.snd.snd.snd.fst ∧ ((0 : Int) ≤ v_90.snd.snd.fst ∧ v_90.snd.snd.fst < (↑cuts.length : Int) ∧ v_90.snd.snd.fst = (↑v_5.fst.toNat : Int)) ∧ v_90.snd.fst + ((↑v_90.snd.snd.snd.fst : Int) - v_90.fst) = v_90.snd.snd.fst + (1 : Int) ∧ v_90.fst ≤ v_90.snd.fst ∧ (∀ (j : Nat), j < v_90.snd.snd.snd.fst → (↑(v_90.snd.snd.snd.snd.fst.getD j (dflt (8 : Nat))).seq.toNat : Int) = f + (v_90.snd.fst - v_90.fst) + (↑j : Int)) ∧ (v_90.snd.snd.snd.snd.snd.fst, v_90.snd.snd.snd.snd.snd.snd.fst) = st f (v_90.snd.snd.fst + (1 : Int)) ∧ ((0 : Int) ≤ v_90.snd.snd.snd.snd.snd.snd.fst ∧ v_90.snd.snd.snd.snd.snd.snd.fst ≤ (4294967295 : Int)) ∧ (0 : Int) ≤ v_90.snd.snd.snd.snd.snd.snd.snd ∧ v_90.snd.snd.snd.snd.snd.snd.snd ≤ (1048576 : Int)
          intro n92
          intro q92 -- n92 = (↑v_90.snd.snd.snd.fst : Int)
          intro ⟨l92, u92⟩ -- (-9223372036854775808 : Int) ≤ n92 ∧ n92 ≤ (9223372036854775807 : Int)
          refine brd (fun c35 => ?_) (fun c35 => ?_) -- decide (v_90.fst < n92)
          · -- yes
            refine ⟨by first | omega | (dsimp only; omega), ?_⟩ -- (0 : Int) ≤ v_90.fst
            refine ⟨by first | omega | (dsimp only; omega), ?_⟩ -- v_90.fst < (↑v_90.snd.snd.snd.fst : Int)
            refine ⟨by first | omega | (dsimp only; omega), ?_⟩ -- (0 : Nat) + v_90.fst.toNat < v_90.snd.snd.snd.snd.fst.length
            intro n95
            intro q95 -- n95 = (↑(v_90.snd.snd.snd.snd.fst.getD ((0 : Nat) + v_90.fst.toNat) (dflt (8 : Nat))).seq.toNat : Int)
            intro ⟨l95, u95⟩ -- (0 : Int) ≤ n95 ∧ n95 ≤ (4294967295 : Int)
            intro n98
            intro q98 -- n98 = IntKind.u32.wrap v_90.snd.fst
            rw [IntKind.wrap_u32] at q98
            intro ⟨l98, u98⟩ -- (0 : Int) ≤ n98 ∧ n98 ≤ (4294967295 : Int)
            intro n101
            intro q101 -- n101 = IntKind.u32.wrap (f + n98)
            rw [IntKind.wrap_u32] at q101
            intro ⟨l101, u101⟩ -- (0 : Int) ≤ n101 ∧ n101 ≤ (4294967295 : Int)
            refine br_intro (fun c36 => ?_) (fun c36 => ?_) -- n95 != n101
            · -- yes
              simp at c36 -- ¬n95 = n101
              -- k (AV.bool false) [] []
              exfalso
              have A := h34.2.2.2.2.2.1 v_90.fst.toNat (by omega)
              rw [Nat.zero_add] at q95
              omega
            · -- no
              simp at c36 -- n95 = n101
              intro n104
              intro q104 -- n104 = IntKind.i64.wrap (v_90.snd.fst + (1 : Int))
              rw [IntKind.wrap_i64] at q104
              intro ⟨l104, u104⟩ -- (-9223372036854775808 : Int) ≤ n104 ∧ n104 ≤ (9223372036854775807 : Int)
              intro n107
              intro q107 -- n107 = IntKind.i64.wrap (v_90.fst + (1 : Int))
              rw [IntKind.wrap_i64] at q107
              intro ⟨l107, u107⟩ -- (-9223372036854775808 : Int) ≤ n107 ∧ n107 ≤ (9223372036854775807 : Int)
              refine ⟨(n107, n104, v_90.snd.snd.fst, v_90.snd.snd.snd.fst, v_90.snd.snd.snd.snd.fst, v_90.snd.snd.snd.snd.snd.fst, v_90.snd.snd.snd.snd.snd.snd.fst, v_90.snd.snd.snd.snd.snd.snd.snd), ?_⟩
              refine ⟨by first | with_reducible rfl | rfl, ?_⟩ -- f = f
              refine ⟨by first | with_reducible rfl | rfl, ?_⟩ -- cuts = cuts
              refine ⟨by first | with_reducible rfl | rfl, ?_⟩ -- again = again
              refine ⟨by first | with_reducible rfl | rfl, ?_⟩ -- true = true
              refine ⟨by first | with_reducible rfl | rfl, ?_⟩ -- n104 = n104
              refine ⟨by first | with_reducible rfl | rfl, ?_⟩ -- v_90.snd.snd.fst = v_90.snd.snd.fst
              refine ⟨by first | with_reducible rfl | rfl, ?_⟩ -- (0 : Nat) = (0 : Nat)
              refine ⟨by first | with_reducible rfl | rfl, ?_⟩ -- v_90.snd.snd.snd.fst = v_90.snd.snd.snd.fst
              refine ⟨by first | with_reducible rfl | rfl, ?_⟩ -- n107 = n107
              refine ⟨by first | with_reducible rfl | rfl, ?_⟩ -- v_90.snd.snd.snd.snd.fst = v_90.snd.snd.snd.snd.fst
              refine ⟨by first | with_reducible rfl | rfl, ?_⟩ -- v_90.snd.snd.snd.snd.snd.fst = v_90.snd.snd.snd.snd.snd.fst
              refine ⟨by first | with_reducible rfl | rfl, ?_⟩ -- v_90.snd.snd.snd.snd.snd.snd.fst = v_90.snd.snd.snd.snd.snd.snd.fst
              refine ⟨by first | with_reducible rfl | rfl, ?_⟩ -- v_90.snd.snd.snd.snd.snd.snd.snd = v_90.snd.snd.snd.snd.snd.snd.snd
              refine ⟨?_, ?_⟩
              · -- left
                refine ⟨by first | omega | (dsimp only; omega), ?_⟩ -- (0 : Int) ≤ n107 ∧ n107 ≤ (↑v_90.snd.snd.snd.fst : Int)
                refine ⟨by show v_90.snd.snd.snd.snd.fst.length = v_90.snd.snd.snd.fst; omega, ?_⟩ -- v_90.snd.snd.snd.snd.fst.length = v_90.snd.snd.snd.fst
                refine ⟨?_, ?_⟩
                · -- left
                  refine ⟨by show (0 : Int) ≤ v_90.snd.snd.fst; omega, ?_⟩ -- (0 : Int) ≤ v_90.snd.snd.fst
                  refine ⟨by show v_90.snd.snd.fst < (↑cuts.length : Int); omega, ?_⟩ -- v_90.snd.snd.fst < (↑cuts.length : Int)
                  exact by show v_90.snd.snd.fst = (↑v_5.fst.toNat : Int); omega -- v_90.snd.snd.fst = (↑v_5.fst.toNat : Int)
                refine ⟨by show n104 + ((↑v_90.snd.snd.snd.fst : Int) - n107) = v_90.snd.snd.fst + (1 : Int); omega, ?_⟩ -- n104 + ((↑v_90.snd.snd.snd.fst : Int) - n107) = v_90.snd.snd.fst + (1 : Int)
                refine ⟨by show n107 ≤ n104; omega, ?_⟩ -- n107 ≤ n104
                refine ⟨?_, ?_⟩
                · -- left
                  intro j_110
                  intro h37 -- j_110 < v_90.snd.snd.snd.fst
                  -- (↑(v_90.snd.snd.snd.snd.fst.getD j_110 (dflt (8 : Nat))).seq.toNat : Int) = f + (n104 - n107) + (↑j_110 : Int)
                  have A := h34.2.2.2.2.2.1 j_110 h37
                  show ((v_90.snd.snd.snd.snd.fst.getD j_110 (dflt 8)).seq.toNat : Int) = f + (n104 - n107) + (j_110 : Int)
                  omega
                have h38 : (v_90.snd.snd.snd.snd.snd.fst, v_90.snd.snd.snd.snd.snd.snd.fst) = st f (v_90.snd.snd.fst + (1 : Int)) := by
                  exact h34.2.2.2.2.2.2.1
                refine ⟨h38, ?_⟩
                refine ⟨by first | omega | (dsimp only; omega), ?_⟩ -- (0 : Int) ≤ v_90.snd.snd.snd.snd.snd.snd.fst ∧ v_90.snd.snd.snd.snd.snd.snd.fst ≤ (4294967295 : Int)
                refine ⟨by show (0 : Int) ≤ v_90.snd.snd.snd.snd.snd.snd.snd; omega, ?_⟩ -- (0 : Int) ≤ v_90.snd.snd.snd.snd.snd.snd.snd
                exact by show v_90.snd.snd.snd.snd.snd.snd.snd ≤ (1048576 : Int); omega -- v_90.snd.snd.snd.snd.snd.snd.snd ≤ (1048576 : Int)
              exact by show ((↑v_90.snd.snd.snd.fst : Int) - n107).toNat < ((↑v_90.snd.snd.snd.fst : Int) - v_90.fst).toNat; omega -- ((↑v_90.snd.snd.snd.fst : Int) - n107).toNat < ((↑v_90.snd.snd.snd.fst : Int) - v_90.fst).toNat
          · -- no
            intro n112
            intro q112 -- n112 = IntKind.i64.wrap (v_90.snd.snd.fst + (1 : Int))
            rw [IntKind.wrap_i64] at q112
            intro ⟨l112, u112⟩ -- (-9223372036854775808 : Int) ≤ n112 ∧ n112 ≤ (9223372036854775807 : Int)
            refine ⟨(n112, v_90.snd.fst, v_90.snd.snd.snd.snd.snd.fst, v_90.snd.snd.snd.snd.snd.snd.fst, v_90.snd.snd.snd.snd.snd.snd.snd, []), ?_⟩
            refine ⟨by first | with_reducible rfl | rfl, ?_⟩ -- f = f
            refine ⟨by first | with_reducible rfl | rfl, ?_⟩ -- cuts = cuts
            refine ⟨by first | with_reducible rfl | rfl, ?_⟩ -- again = again
            refine ⟨by first | with_reducible rfl | rfl, ?_⟩ -- true = true
            refine ⟨by first | with_reducible rfl | rfl, ?_⟩ -- (0 : Nat) = (0 : Nat)
            refine ⟨by first | with_reducible rfl | rfl, ?_⟩ -- (0 : Nat) = (0 : Nat)
            refine ⟨by first | with_reducible rfl | rfl, ?_⟩ -- v_90.snd.fst = v_90.snd.fst
            refine ⟨by first | with_reducible rfl | rfl, ?_⟩ -- n112 = n112
            refine ⟨by first | with_reducible rfl | rfl, ?_⟩ -- v_90.snd.snd.snd.snd.snd.fst = v_90.snd.snd.snd.snd.snd.fst
            refine ⟨by first | with_reducible rfl | rfl, ?_⟩ -- v_90.snd.snd.snd.snd.snd.snd.fst = v_90.snd.snd.snd.snd.snd.snd.fst
            refine ⟨by first | with_reducible rfl | rfl, ?_⟩ -- v_90.snd.snd.snd.snd.snd.snd.snd = v_90.snd.snd.snd.snd.snd.snd.snd
            refine ⟨by first | with_reducible rfl | rfl, ?_⟩ -- [] = []
            refine ⟨?_, ?_⟩
            · -- left
              refine ⟨?_, ?_⟩
              · -- left
                refine ⟨by show (0 : Int) ≤ v_90.snd.fst; omega, ?_⟩ -- (0 : Int) ≤ v_90.snd.fst
                refine ⟨by show v_90.snd.fst ≤ n112; omega, ?_⟩ -- v_90.snd.fst ≤ n112
                exact by show n112 ≤ (↑cuts.length : Int); omega -- n112 ≤ (↑cuts.length : Int)
              refine ⟨by first | omega | (dsimp only; omega), ?_⟩ -- (0 : Int) ≤ v_90.snd.snd.snd.snd.snd.snd.fst ∧ v_90.snd.snd.snd.snd.snd.snd.fst ≤ (4294967295 : Int)
              refine ⟨by first | omega | (dsimp only; omega), ?_⟩ -- (0 : Int) ≤ v_90.snd.snd.snd.snd.snd.snd.snd ∧ v_90.snd.snd.snd.snd.snd.snd.snd ≤ (1048576 : Int)
              have h39 : (v_90.snd.snd.snd.snd.snd.fst, v_90.snd.snd.snd.snd.snd.snd.fst) = st f v_90.snd.fst := by
                rw [show v_90.snd.fst = v_90.snd.snd.fst + 1 by omega]; exact h34.2.2.2.2.2.2.1
              refine ⟨h39, ?_⟩
              have h40 : Pend f n112 v_90.snd.fst [] := by
                rw [show n112 = v_90.snd.fst by omega]; exact pend_nil (by omega)
              refine ⟨h40, ?_⟩
              intro h41 -- n112 = (↑cuts.length : Int)
              exact by show v_90.snd.fst = n112; omega -- v_90.snd.fst = n112
            exact by show ((↑cuts.length : Int) - n112).toNat < ((↑cuts.length : Int) - v_5.fst).toNat; omega -- ((↑cuts.length : Int) - n112).toNat < ((↑cuts.length : Int) - v_5.fst).toNat
      · -- no
        simp at c11 -- v_5.fst < n22 → again[v_5.fst.toNat]?.getD false = false
        refine ⟨by first | omega | (dsimp only; omega), ?_⟩ -- (0 : Int) ≤ v_5.fst
        refine ⟨by first | omega | (dsimp only; omega), ?_⟩ -- v_5.fst < (↑cuts.length : Int)
        intro n116
        intro q116 -- n116 = IntKind.i64.wrap (v_5.fst + (1 : Int))
        rw [IntKind.wrap_i64] at q116
        intro n118
        intro q118 -- n118 = (↑cuts.length : Int)
        refine br_intro (fun c42 => ?_) (fun c42 => ?_) -- bif !cuts.getD v_5.fst.toNat false then decide (n116 < n118) else false
        · -- yes
          simp at c42 -- cuts[v_5.fst.toNat]?.getD false = false ∧ n116 < n118
          intro n120
          intro q120 -- n120 = IntKind.i64.wrap (v_5.fst + (1 : Int))
          rw [IntKind.wrap_i64] at q120
          intro ⟨l120, u120⟩ -- (-9223372036854775808 : Int) ≤ n120 ∧ n120 ≤ (9223372036854775807 : Int)
          refine ⟨(n120, v_5.snd.fst, v_5.snd.snd.fst, v_5.snd.snd.snd.fst, v_5.snd.snd.snd.snd.fst, z20), ?_⟩
          refine ⟨by first | with_reducible rfl | rfl, ?_⟩ -- f = f
          refine ⟨by first | with_reducible rfl | rfl, ?_⟩ -- cuts = cuts
          refine ⟨by first | with_reducible rfl | rfl, ?_⟩ -- again = again
          refine ⟨by first | with_reducible rfl | rfl, ?_⟩ -- true = true
          refine ⟨by first | with_reducible rfl | rfl, ?_⟩ -- (0 : Nat) = (0 : Nat)
          have h43 : v_5.snd.snd.snd.snd.snd.length + n_17 = z20.length := by
            have e17 : n_17 = 1 := by rw [← h8, h7]; rfl
            have hn13 : n13 = f + v_5.fst := by omega
            have z20e : z20 = v_5.snd.snd.snd.snd.snd ++ [msg (UInt32.ofNat (f + v_5.fst).toNat)] := by
              rw [qz20, h7, e17, hn13, List.take_of_length_le (Nat.le_refl _)]; rfl
            have p20 : Pend f (v_5.fst + 1) v_5.snd.fst z20 := by
              rw [z20e]; exact pend_one h4.2.2.2.2.1 (by omega) h4.1.1 h4.1.2.1 (by omega)
            have l36 : v_5.snd.snd.snd.snd.snd.length + n_17 = z20.length := by rw [z20e]; simp [e17]
            have t36 : List.take (v_5.snd.snd.snd.snd.snd.length + n_17) (List.drop 0 z20) = z20 := by rw [List.drop_zero, List.take_of_length_le (by omega)]
            omega
          refine ⟨h43, ?_⟩
          refine ⟨by first | with_reducible rfl | rfl, ?_⟩ -- v_5.snd.fst = v_5.snd.fst
          refine ⟨by first | with_reducible rfl | rfl, ?_⟩ -- n120 = n120
          refine ⟨by first | with_reducible rfl | rfl, ?_⟩ -- v_5.snd.snd.fst = v_5.snd.snd.fst
          refine ⟨by first | with_reducible rfl | rfl, ?_⟩ -- v_5.snd.snd.snd.fst = v_5.snd.snd.snd.fst
          refine ⟨by first | with_reducible rfl | rfl, ?_⟩ -- v_5.snd.snd.snd.snd.fst = v_5.snd.snd.snd.snd.fst
          refine ⟨by first | with_reducible rfl | rfl, ?_⟩ -- z20 = z20
          refine ⟨?_, ?_⟩
          · -- left
            refine ⟨?_, ?_⟩
            · -- left
              refine ⟨by show (0 : Int) ≤ v_5.snd.fst; omega, ?_⟩ -- (0 : Int) ≤ v_5.snd.fst
              refine ⟨by show v_5.snd.fst ≤ n120; omega, ?_⟩ -- v_5.snd.fst ≤ n120
              exact by show n120 ≤ (↑cuts.length : Int); omega -- n120 ≤ (↑cuts.length : Int)
            refine ⟨by first | omega | (dsimp only; omega), ?_⟩ -- (0 : Int) ≤ v_5.snd.snd.snd.fst ∧ v_5.snd.snd.snd.fst ≤ (4294967295 : Int)
            refine ⟨by first | omega | (dsimp only; omega), ?_⟩ -- (0 : Int) ≤ v_5.snd.snd.snd.snd.fst ∧ v_5.snd.snd.snd.snd.fst ≤ (1048576 : Int)
            have h44 : (v_5.snd.snd.fst, v_5.snd.snd.snd.fst) = st f v_5.snd.fst := by
              exact h4.2.2.2.1
            refine ⟨h44, ?_⟩
            have h45 : Pend f n120 v_5.snd.fst z20 := by
              have e17 : n_17 = 1 := by rw [← h8, h7]; rfl
              have hn13 : n13 = f + v_5.fst := by omega
              have z20e : z20 = v_5.snd.snd.snd.snd.snd ++ [msg (UInt32.ofNat (f + v_5.fst).toNat)] := by
                rw [qz20, h7, e17, hn13, List.take_of_length_le (Nat.le_refl _)]; rfl
              have p20 : Pend f (v_5.fst + 1) v_5.snd.fst z20 := by
                rw [z20e]; exact pend_one h4.2.2.2.2.1 (by omega) h4.1.1 h4.1.2.1 (by omega)
              have l36 : v_5.snd.snd.snd.snd.snd.length + n_17 = z20.length := by rw [z20e]; simp [e17]
              have t36 : List.take (v_5.snd.snd.snd.snd.snd.length + n_17) (List.drop 0 z20) = z20 := by rw [List.drop_zero, List.take_of_length_le (by omega)]
              rw [show n120 = v_5.fst + 1 by omega]; exact p20
            refine ⟨h45, ?_⟩
            intro h46 -- n120 = (↑cuts.length : Int)
            exact by show v_5.snd.fst = n120; omega -- v_5.snd.fst = n120
          exact by show ((↑cuts.length : Int) - n120).toNat < ((↑cuts.length : Int) - v_5.fst).toNat; omega -- ((↑cuts.length : Int) - n120).toNat < ((↑cuts.length : Int) - v_5.fst).toNat
        · -- no
          simp at c42 -- cuts[v_5.fst.toNat]?.getD false = false → n118 ≤ n116
          refine ⟨by first | omega | (dsimp only; omega), ?_⟩ -- (0 : Int) ≤ v_5.snd.snd.snd.fst ∧ v_5.snd.snd.snd.fst ≤ (4294967295 : Int)
          refine ⟨by first | omega | (dsimp only; omega), ?_⟩ -- (-9223372036854775808 : Int) ≤ v_5.snd.snd.snd.snd.fst ∧ v_5.snd.snd.snd.snd.fst ≤ (9223372036854775807 : Int)
          refine ⟨?_, ?_⟩
          · -- left
            intro e_124
            intro h47 -- e_124 = lE v_5.snd.snd.fst v_5.snd.snd.snd.fst v_5.snd.snd.snd.snd.fst (List.take (v_5.snd.snd.snd.snd.snd.length + n_17) (List.drop (0 : Nat) z20))
            intro h48 -- e_124 ≠ (0 : Int)
            refine br_intro (fun c49 => ?_) (fun c49 => ?_) -- e_124 != (0 : Int)
            · -- yes
              simp at c49 -- ¬e_124 = (0 : Int)
              -- k (AV.bool false) [] []
              have e17 : n_17 = 1 := by rw [← h8, h7]; rfl
              have hn13 : n13 = f + v_5.fst := by omega
              have z20e : z20 = v_5.snd.snd.snd.snd.snd ++ [msg (UInt32.ofNat (f + v_5.fst).toNat)] := by
                rw [qz20, h7, e17, hn13, List.take_of_length_le (Nat.le_refl _)]; rfl
              have p20 : Pend f (v_5.fst + 1) v_5.snd.fst z20 := by
                rw [z20e]; exact pend_one h4.2.2.2.2.1 (by omega) h4.1.1 h4.1.2.1 (by omega)
              have l36 : v_5.snd.snd.snd.snd.snd.length + n_17 = z20.length := by rw [z20e]; simp [e17]
              have t36 : List.take (v_5.snd.snd.snd.snd.snd.length + n_17) (List.drop 0 z20) = z20 := by rw [List.drop_zero, List.take_of_length_le (by omega)]
              exact absurd (h47.trans (by rw [t36]; exact pend_E p20 h4.2.2.2.1 h4.2.2.1 (by omega))) c49
            · -- no
              simp at c49 -- e_124 = (0 : Int)
              exfalso; omega
          intro h50 -- lE v_5.snd.snd.fst v_5.snd.snd.snd.fst v_5.snd.snd.snd.snd.fst (List.take (v_5.snd.snd.snd.snd.snd.length + n_17) (List.drop (0 : Nat) z20)) = (0 : Int)
          intro b_156
          intro l_157
          intro a_158
          intro ys_159
          intro n_160
          intro h51 -- (b_156, l_157) = stk (v_5.snd.snd.fst, v_5.snd.snd.snd.fst) (List.take (v_5.snd.snd.snd.snd.snd.length + n_17) (List.drop (0 : Nat) z20))
          intro ⟨a52, b52⟩ -- (0 : Int) ≤ l_157 ∧ l_157 ≤ (4294967295 : Int)
          intro h53 -- ys_159 = tk (v_5.snd.snd.fst, v_5.snd.snd.snd.fst) (List.take (v_5.snd.snd.snd.snd.snd.length + n_17) (List.drop (0 : Nat) z20))
          intro h54 -- ys_159.length = n_160
          intro h55 -- a_158 = ageN v_5.snd.snd.snd.snd.fst n_160
          refine ⟨?_, ?_⟩
          · -- left
            refine ⟨((0 : Int), v_5.snd.fst, v_5.fst, n_160, ys_159, b_156, l_157, a_158), ?_⟩
            refine ⟨by first | with_reducible rfl | rfl, ?_⟩ -- f = f
            refine ⟨by first | with_reducible rfl | rfl, ?_⟩ -- cuts = cuts
            refine ⟨by first | with_reducible rfl | rfl, ?_⟩ -- again = again
            refine ⟨by first | with_reducible rfl | rfl, ?_⟩ -- true = true
            refine ⟨by first | with_reducible rfl | rfl, ?_⟩ -- v_5.snd.fst = v_5.snd.fst
            refine ⟨by first | with_reducible rfl | rfl, ?_⟩ -- v_5.fst = v_5.fst
            refine ⟨by first | with_reducible rfl | rfl, ?_⟩ -- (0 : Nat) = (0 : Nat)
            refine ⟨by first | with_reducible rfl | rfl, ?_⟩ -- n_160 = n_160
            refine ⟨by first | with_reducible rfl | rfl, ?_⟩ -- (0 : Int) = (0 : Int)
            refine ⟨by first | with_reducible rfl | rfl, ?_⟩ -- ys_159 = ys_159
            refine ⟨by first | with_reducible rfl | rfl, ?_⟩ -- b_156 = b_156
            refine ⟨by first | with_reducible rfl | rfl, ?_⟩ -- l_157 = l_157
            refine ⟨by first | with_reducible rfl | rfl, ?_⟩ -- a_158 = a_158
            refine ⟨by first | omega | (dsimp only; omega), ?_⟩ -- (0 : Int) ≤ (0 : Int) ∧ (0 : Int) ≤ (↑n_160 : Int)
            refine ⟨by show ys_159.length = n_160; assumption, ?_⟩ -- ys_159.length = n_160
            refine ⟨?_, ?_⟩
            · -- left
              refine ⟨by show (0 : Int) ≤ v_5.fst; omega, ?_⟩ -- (0 : Int) ≤ v_5.fst
              refine ⟨by show v_5.fst < (↑cuts.length : Int); omega, ?_⟩ -- v_5.fst < (↑cuts.length : Int)
              exact by show v_5.fst = (↑v_5.fst.toNat : Int); omega -- v_5.fst = (↑v_5.fst.toNat : Int)
            have h56 : v_5.snd.fst + ((↑n_160 : Int) - (0 : Int)) = v_5.fst + (1 : Int) := by
              have e17 : n_17 = 1 := by rw [← h8, h7]; rfl
              have hn13 : n13 = f + v_5.fst := by omega
              have z20e : z20 = v_5.snd.snd.snd.snd.snd ++ [msg (UInt32.ofNat (f + v_5.fst).toNat)] := by
                rw [qz20, h7, e17, hn13, List.take_of_length_le (Nat.le_refl _)]; rfl
              have p20 : Pend f (v_5.fst + 1) v_5.snd.fst z20 := by
                rw [z20e]; exact pend_one h4.2.2.2.2.1 (by omega) h4.1.1 h4.1.2.1 (by omega)
              have l36 : v_5.snd.snd.snd.snd.snd.length + n_17 = z20.length := by rw [z20e]; simp [e17]
              have t36 : List.take (v_5.snd.snd.snd.snd.snd.length + n_17) (List.drop 0 z20) = z20 := by rw [List.drop_zero, List.take_of_length_le (by omega)]
              have L := pend_len p20 h4.2.2.2.1
              rw [t36] at h53
              rw [← h53, h54] at L
              omega
            refine ⟨h56, ?_⟩
            refine ⟨by show (0 : Int) ≤ v_5.snd.fst; omega, ?_⟩ -- (0 : Int) ≤ v_5.snd.fst
            refine ⟨?_, ?_⟩
            · -- left
              intro j_166
              intro h57 -- j_166 < n_160
              -- (↑(ys_159.getD j_166 (dflt (8 : Nat))).seq.toNat : Int) = f + (v_5.snd.fst - (0 : Int)) + (↑j_166 : Int)
              have e17 : n_17 = 1 := by rw [← h8, h7]; rfl
              have hn13 : n13 = f + v_5.fst := by omega
              have z20e : z20 = v_5.snd.snd.snd.snd.snd ++ [msg (UInt32.ofNat (f + v_5.fst).toNat)] := by
                rw [qz20, h7, e17, hn13, List.take_of_length_le (Nat.le_refl _)]; rfl
              have p20 : Pend f (v_5.fst + 1) v_5.snd.fst z20 := by
                rw [z20e]; exact pend_one h4.2.2.2.2.1 (by omega) h4.1.1 h4.1.2.1 (by omega)
              have l36 : v_5.snd.snd.snd.snd.snd.length + n_17 = z20.length := by rw [z20e]; simp [e17]
              have t36 : List.take (v_5.snd.snd.snd.snd.snd.length + n_17) (List.drop 0 z20) = z20 := by rw [List.drop_zero, List.take_of_length_le (by omega)]
              have L := pend_len p20 h4.2.2.2.1
              rw [t36] at h53
              rw [← h53, h54] at L
              have hj : j_166 < n_160 := h57
              have A := pend_at p20 h4.2.2.2.1 (j := j_166) (by omega)
              rw [← h53] at A
              show ((ys_159.getD j_166 (dflt 8)).seq.toNat : Int) = f + (v_5.snd.fst - 0) + (j_166 : Int)
              omega
            have h58 : (b_156, l_157) = st f (v_5.fst + (1 : Int)) := by
              have e17 : n_17 = 1 := by rw [← h8, h7]; rfl
              have hn13 : n13 = f + v_5.fst := by omega
              have z20e : z20 = v_5.snd.snd.snd.snd.snd ++ [msg (UInt32.ofNat (f + v_5.fst).toNat)] := by
                rw [qz20, h7, e17, hn13, List.take_of_length_le (Nat.le_refl _)]; rfl
              have p20 : Pend f (v_5.fst + 1) v_5.snd.fst z20 := by
                rw [z20e]; exact pend_one h4.2.2.2.2.1 (by omega) h4.1.1 h4.1.2.1 (by omega)
              have l36 : v_5.snd.snd.snd.snd.snd.length + n_17 = z20.length := by rw [z20e]; simp [e17]
              have t36 : List.take (v_5.snd.snd.snd.snd.snd.length + n_17) (List.drop 0 z20) = z20 := by rw [List.drop_zero, List.take_of_length_le (by omega)]
              rw [h51, t36, h4.2.2.2.1]; exact p20.c1
            refine ⟨h58, ?_⟩
            refine ⟨by exact ⟨by assumption, by assumption⟩, ?_⟩ -- (0 : Int) ≤ l_157 ∧ l_157 ≤ (4294967295 : Int)
            have h59 : (0 : Int) ≤ a_158 := by
              exact (pend_age h4.2.2.1 h55).1
            refine ⟨h59, ?_⟩
            -- a_158 ≤ (1048576 : Int)
            exact (pend_age h4.2.2.1 h55).2
          intro v_168
          intro h60 -- ((0 : Int) ≤ v_168.fst ∧ v_168.fst ≤ (↑v_168.snd.snd.snd.fst : Int)) ∧ v_168.snd.snd.snd.snd.fst.length = v_168.snd.snd.snd.fst ∧ ((0 : Int) ≤ v_168.snd.snd.fst ∧ v_168.snd.snd.fst < (↑cuts.length : Int) ∧ v_168.snd.snd.fst = (↑v_5.fst.toNat : Int)) ∧ v_168.snd.fst + ((↑v_168.snd.snd.snd.fst : Int) - v_168.fst) = v_168.snd.snd.fst + (1 : Int) ∧ v_168.fst ≤ v_168.snd.fst ∧ (∀ (j : Nat), j < v_168.snd.snd.snd.fst → (↑(v_168.snd.snd.snd.snd.fst.getD j (dflt (8 : Nat))).seq.toNat : Int) = f + (v_168.snd.fst - v_168.fst) + (↑j : Int)) ∧ (v_168.snd.snd.snd.snd.snd.fst, v_168.snd.snd.snd.snd.snd.snd.fst) = st f (v_168.snd.snd.fst + (1 : Int)) ∧ ((0 : Int) ≤ v_168.snd.snd.snd.snd.snd.snd.fst ∧ v_168.snd.snd.snd.snd.snd.snd.fst ≤ (4294967295 : Int)) ∧ (0 : Int) ≤ v_168.snd.snd.snd.snd.snd.snd.snd ∧ v_168.snd.snd.snd.snd.snd.snd.snd ≤ (1048576 : Int)
          intro n170
          intro q170 -- n170 = (↑v_168.snd.snd.snd.fst : Int)
          intro ⟨l170, u170⟩ -- (-9223372036854775808 : Int) ≤ n170 ∧ n170 ≤ (9223372036854775807 : Int)
          refine brd (fun c61 => ?_) (fun c61 => ?_) -- decide (v_168.fst < n170)
          · -- yes
            refine ⟨by first | omega | (dsimp only; omega), ?_⟩ -- (0 : Int) ≤ v_168.fst
            refine ⟨by first | omega | (dsimp only; omega), ?_⟩ -- v_168.fst < (↑v_168.snd.snd.snd.fst : Int)
            refine ⟨by first | omega | (dsimp only; omega), ?_⟩ -- (0 : Nat) + v_168.fst.toNat < v_168.snd.snd.snd.snd.fst.length
            intro n173
            intro q173 -- n173 = (↑(v_168.snd.snd.snd.snd.fst.getD ((0 : Nat) + v_168.fst.toNat) (dflt (8 : Nat))).seq.toNat : Int)
            intro ⟨l173, u173⟩ -- (0 : Int) ≤ n173 ∧ n173 ≤ (4294967295 : Int)
            intro n176
            intro q176 -- n176 = IntKind.u32.wrap v_168.snd.fst
            rw [IntKind.wrap_u32] at q176
            intro ⟨l176, u176⟩ -- (0 : Int) ≤ n176 ∧ n176 ≤ (4294967295 : Int)
            intro n179
            intro q179 -- n179 = IntKind.u32.wrap (f + n176)
            rw [IntKind.wrap_u32] at q179
            intro ⟨l179, u179⟩ -- (0 : Int) ≤ n179 ∧ n179 ≤ (4294967295 : Int)
            refine br_intro (fun c62 => ?_) (fun c62 => ?_) -- n173 != n179
            · -- yes
              simp at c62 -- ¬n173 = n179
              -- k (AV.bool false) [] []
              exfalso
              have A := h60.2.2.2.2.2.1 v_168.fst.toNat (by omega)
              rw [Nat.zero_add] at q173
              omega
            · -- no
              simp at c62 -- n173 = n179
              intro n182
              intro q182 -- n182 = IntKind.i64.wrap (v_168.snd.fst + (1 : Int))
              rw [IntKind.wrap_i64] at q182
              intro ⟨l182, u182⟩ -- (-9223372036854775808 : Int) ≤ n182 ∧ n182 ≤ (9223372036854775807 : Int)
              intro n185
              intro q185 -- n185 = IntKind.i64.wrap (v_168.fst + (1 : Int))
              rw [IntKind.wrap_i64] at q185
              intro ⟨l185, u185⟩ -- (-9223372036854775808 : Int) ≤ n185 ∧ n185 ≤ (9223372036854775807 : Int)
              refine ⟨(n185, n182, v_168.snd.snd.fst, v_168.snd.snd.snd.fst, v_168.snd.snd.snd.snd.fst, v_168.snd.snd.snd.snd.snd.fst, v_168.snd.snd.snd.snd.snd.snd.fst, v_168.snd.snd.snd.snd.snd.snd.snd), ?_⟩
              refine ⟨by first | with_reducible rfl | rfl, ?_⟩ -- f = f
              refine ⟨by first | with_reducible rfl | rfl, ?_⟩ -- cuts = cuts
              refine ⟨by first | with_reducible rfl | rfl, ?_⟩ -- again = again
              refine ⟨by first | with_reducible rfl | rfl, ?_⟩ -- true = true
              refine ⟨by first | with_reducible rfl | rfl, ?_⟩ -- n182 = n182
              refine ⟨by first | with_reducible rfl | rfl, ?_⟩ -- v_168.snd.snd.fst = v_168.snd.snd.fst
              refine ⟨by first | with_reducible rfl | rfl, ?_⟩ -- (0 : Nat) = (0 : Nat)
              refine ⟨by first | with_reducible rfl | rfl, ?_⟩ -- v_168.snd.snd.snd.fst = v_168.snd.snd.snd.fst
              refine ⟨by first | with_reducible rfl | rfl, ?_⟩ -- n185 = n185
              refine ⟨by first | with_reducible rfl | rfl, ?_⟩ -- v_168.snd.snd.snd.snd.fst = v_168.snd.snd.snd.snd.fst
              refine ⟨by first | with_reducible rfl | rfl, ?_⟩ -- v_168.snd.snd.snd.snd.snd.fst = v_168.snd.snd.snd.snd.snd.fst
              refine ⟨by first | with_reducible rfl | rfl, ?_⟩ -- v_168.snd.snd.snd.snd.snd.snd.fst = v_168.snd.snd.snd.snd.snd.snd.fst
              refine ⟨by first | with_reducible rfl | rfl, ?_⟩ -- v_168.snd.snd.snd.snd.snd.snd.snd = v_168.snd.snd.snd.snd.snd.snd.snd
              refine ⟨?_, ?_⟩
              · -- left
                refine ⟨by first | omega | (dsimp only; omega), ?_⟩ -- (0 : Int) ≤ n185 ∧ n185 ≤ (↑v_168.snd.snd.snd.fst : Int)
                refine ⟨by show v_168.snd.snd.snd.snd.fst.length = v_168.snd.snd.snd.fst; omega, ?_⟩ -- v_168.snd.snd.snd.snd.fst.length = v_168.snd.snd.snd.fst
                refine ⟨?_, ?_⟩
                · -- left
                  refine ⟨by show (0 : Int) ≤ v_168.snd.snd.fst; omega, ?_⟩ -- (0 : Int) ≤ v_168.snd.snd.fst
                  refine ⟨by show v_168.snd.snd.fst < (↑cuts.length : Int); omega, ?_⟩ -- v_168.snd.snd.fst < (↑cuts.length : Int)
                  exact by show v_168.snd.snd.fst = (↑v_5.fst.toNat : Int); omega -- v_168.snd.snd.fst = (↑v_5.fst.toNat : Int)
                refine ⟨by show n182 + ((↑v_168.snd.snd.snd.fst : Int) - n185) = v_168.snd.snd.fst + (1 : Int); omega, ?_⟩ -- n182 + ((↑v_168.snd.snd.snd.fst : Int) - n185) = v_168.snd.snd.fst + (1 : Int)
                refine ⟨by show n185 ≤ n182; omega, ?_⟩ -- n185 ≤ n182
                refine ⟨?_, ?_⟩
                · -- left
                  intro j_188
                  intro h63 -- j_188 < v_168.snd.snd.snd.fst
                  -- (↑(v_168.snd.snd.snd.snd.fst.getD j_188 (dflt (8 : Nat))).seq.toNat : Int) = f + (n182 - n185) + (↑j_188 : Int)
                  have A := h60.2.2.2.2.2.1 j_188 h63
                  show ((v_168.snd.snd.snd.snd.fst.getD j_188 (dflt 8)).seq.toNat : Int) = f + (n182 - n185) + (j_188 : Int)
                  omega
                have h64 : (v_168.snd.snd.snd.snd.snd.fst, v_168.snd.snd.snd.snd.snd.snd.fst) = st f (v_168.snd.snd.fst + (1 : Int)) := by
                  exact h60.2.2.2.2.2.2.1
                refine ⟨h64, ?_⟩
                refine ⟨by first | omega | (dsimp only; omega), ?_⟩ -- (0 : Int) ≤ v_168.snd.snd.snd.snd.snd.snd.fst ∧ v_168.snd.snd.snd.snd.snd.snd.fst ≤ (4294967295 : Int)
                refine ⟨by show (0 : Int) ≤ v_168.snd.snd.snd.snd.snd.snd.snd; omega, ?_⟩ -- (0 : Int) ≤ v_168.snd.snd.snd.snd.snd.snd.snd
                exact by show v_168.snd.snd.snd.snd.snd.snd.snd ≤ (1048576 : Int); omega -- v_168.snd.snd.snd.snd.snd.snd.snd ≤ (1048576 : Int)
              exact by show ((↑v_168.snd.snd.snd.fst : Int) - n185).toNat < ((↑v_168.snd.snd.snd.fst : Int) - v_168.fst).toNat; omega -- ((↑v_168.snd.snd.snd.fst : Int) - n185).toNat < ((↑v_168.snd.snd.snd.fst : Int) - v_168.fst).toNat
          · -- no
            intro n190
            intro q190 -- n190 = IntKind.i64.wrap (v_168.snd.snd.fst + (1 : Int))
            rw [IntKind.wrap_i64] at q190
            intro ⟨l190, u190⟩ -- (-9223372036854775808 : Int) ≤ n190 ∧ n190 ≤ (9223372036854775807 : Int)
            refine ⟨(n190, v_168.snd.fst, v_168.snd.snd.snd.snd.snd.fst, v_168.snd.snd.snd.snd.snd.snd.fst, v_168.snd.snd.snd.snd.snd.snd.snd, []), ?_⟩
            refine ⟨by first | with_reducible rfl | rfl, ?_⟩ -- f = f
            refine ⟨by first | with_reducible rfl | rfl, ?_⟩ -- cuts = cuts
            refine ⟨by first | with_reducible rfl | rfl, ?_⟩ -- again = again
            refine ⟨by first | with_reducible rfl | rfl, ?_⟩ -- true = true
            refine ⟨by first | with_reducible rfl | rfl, ?_⟩ -- (0 : Nat) = (0 : Nat)
            refine ⟨by first | with_reducible rfl | rfl, ?_⟩ -- (0 : Nat) = (0 : Nat)
            refine ⟨by first | with_reducible rfl | rfl, ?_⟩ -- v_168.snd.fst = v_168.snd.fst
            refine ⟨by first | with_reducible rfl | rfl, ?_⟩ -- n190 = n190
            refine ⟨by first | with_reducible rfl | rfl, ?_⟩ -- v_168.snd.snd.snd.snd.snd.fst = v_168.snd.snd.snd.snd.snd.fst
            refine ⟨by first | with_reducible rfl | rfl, ?_⟩ -- v_168.snd.snd.snd.snd.snd.snd.fst = v_168.snd.snd.snd.snd.snd.snd.fst
            refine ⟨by first | with_reducible rfl | rfl, ?_⟩ -- v_168.snd.snd.snd.snd.snd.snd.snd = v_168.snd.snd.snd.snd.snd.snd.snd
            refine ⟨by first | with_reducible rfl | rfl, ?_⟩ -- [] = []
            refine ⟨?_, ?_⟩
            · -- left
              refine ⟨?_, ?_⟩
              · -- left
                refine ⟨by show (0 : Int) ≤ v_168.snd.fst; omega, ?_⟩ -- (0 : Int) ≤ v_168.snd.fst
                refine ⟨by show v_168.snd.fst ≤ n190; omega, ?_⟩ -- v_168.snd.fst ≤ n190
                exact by show n190 ≤ (↑cuts.length : Int); omega -- n190 ≤ (↑cuts.length : Int)
              refine ⟨by first | omega | (dsimp only; omega), ?_⟩ -- (0 : Int) ≤ v_168.snd.snd.snd.snd.snd.snd.fst ∧ v_168.snd.snd.snd.snd.snd.snd.fst ≤ (4294967295 : Int)
              refine ⟨by first | omega | (dsimp only; omega), ?_⟩ -- (0 : Int) ≤ v_168.snd.snd.snd.snd.snd.snd.snd ∧ v_168.snd.snd.snd.snd.snd.snd.snd ≤ (1048576 : Int)
              have h65 : (v_168.snd.snd.snd.snd.snd.fst, v_168.snd.snd.snd.snd.snd.snd.fst) = st f v_168.snd.fst := by
                rw [show v_168.snd.fst = v_168.snd.snd.fst + 1 by omega]; exact h60.2.2.2.2.2.2.1
              refine ⟨h65, ?_⟩
              have h66 : Pend f n190 v_168.snd.fst [] := by
                rw [show n190 = v_168.snd.fst by omega]; exact pend_nil (by omega)
              refine ⟨h66, ?_⟩
              intro h67 -- n190 = (↑cuts.length : Int)
              exact by show v_168.snd.fst = n190; omega -- v_168.snd.fst = n190
            exact by show ((↑cuts.length : Int) - n190).toNat < ((↑cuts.length : Int) - v_5.fst).toNat; omega -- ((↑cuts.length : Int) - n190).toNat < ((↑cuts.length : Int) - v_5.fst).toNat
    · -- no
      intro n194
      intro q194 -- n194 = (↑cuts.length : Int)
      exact by exact k_true hk (by simp; omega) -- k (AV.bool (bif true then v_5.snd.fst == n194 else false)) [] []

theorem linkAll_ok : Holds Try.prog 4 lawAll := by
  refine fn_sound (env := mkEnv T3) (tab_ok T3_ok) Try.func4 Try.call4 fun args k h => ?_
  match args, h with
  | [.int .u32 f, .sl 4 cuts, .sl 4 again], h => exact ⟨by kernel_rfl, allLoops f cuts again, fun _ _ => none, .cast (by kernel_rfl) (linkAll_vc f h.1.1 h.1.2 cuts again k h.2)⟩
end Go.Proofs.Ytpkfadgennejnaa
namespace Go.Proofs.Ytpkfadgennejnaa
open Go.ChangeShapes Go.WideShapes Go.ChangeAt Go.RowKit Go.Eng
set_option linter.unusedVariables false

theorem ownA : ownKnob Try.prog.godebug = none := by kernel_rfl
theorem laidA : laidOutB Try.prog = true := by kernel_rfl

set_option maxHeartbeats 800000 in
set_option maxRecDepth 100000 in
theorem linkAllLifted (os : Os) (started : os.Started) (H : Type) (enc : TypeId × Value → H) :
    ReturnsInHanded {} Try.checked os 4 .any (Rows.linkAllSpec.pre6 enc Try.prog Try.f4 Rows.linkAllRow.domain false) (Rows.linkAllSpec.post enc Try.prog Try.f4 false true false false) := by
  refine returnsInHanded_of_change (C := Try.checked) ownA started (by kernel_rfl) Try.func4
    (ChangeSpec.witness6 (enc := enc) (C := Try.checked) false ⟨#[], #[.int .u32 0, .slice none 0 0, .slice none 0 0], []⟩ 8 (by kernel_rfl) (by kernel_rfl) (by kernel_rfl) (by kernel_rfl)) ?_
  intro W base args ds gs before hval0 hW hcnd _
  have hval : ∀ (j : Nat) t v, Try.f4.params[j]? = some t → args[j]? = some v → Value.okWide Try.prog W .any base t v := hval0
  have hW' := hW
  obtain ⟨p, q, hA0, hV, rfl, hfz, hnd⟩ := hW
  have hA : DataW.TrodAll enc Try.prog W 0 (fun _ => true) true Try.f4.params.toList args.toList ds p := hA0
  rw [Try.params4] at hA hval
  obtain ⟨v0, vs0, d0, ds0, p0, q0, hargs, rfl, rfl, h0, r0⟩ := trodAll_cons hA
  obtain ⟨v1, vs1, d1, ds1, p1, q1, rfl, rfl, rfl, h1, r1⟩ := trodAll_cons r0
  obtain ⟨v2, vs2, d2, ds2, p2, q2, rfl, rfl, rfl, h2, r2⟩ := trodAll_cons r1
  obtain ⟨rfl, rfl, rfl⟩ := trodAll_nil r2
  obtain rfl : args = #[v0, v1, v2] := by cases args; simp_all
  obtain ⟨rfl, rfl⟩ := trodVars_none hV
  obtain ⟨a0, rfl, rfl, rfl, w0⟩ := open_int Try.underlying22 (hval 0 22 v0 rfl rfl) h0
  have k1 := h1
  have lt1 : ∀ x ∈ p1, x.block < W.heap.size := by obtain ⟨m, hm⟩ := k1; exact DataW.trod_lt m _ _ _ hm
  obtain ⟨xs1, w1⟩ : ∃ xs : List Bool, Rep W (· < W.heap.size) noIds v1 (.sl 4 xs) := by
    obtain ⟨fuel, hf⟩ := h1
    exact rep_bools Try.underlying36 Try.underlying4 (by kernel_rfl) (hval 1 36 v1 rfl rfl) hf
  have k2 := h2
  have lt2 : ∀ x ∈ p2, x.block < W.heap.size := by obtain ⟨m, hm⟩ := k2; exact DataW.trod_lt m _ _ _ hm
  obtain ⟨xs2, w2⟩ : ∃ xs : List Bool, Rep W (· < W.heap.size) noIds v2 (.sl 4 xs) := by
    obtain ⟨fuel, hf⟩ := h2
    exact rep_bools Try.underlying36 Try.underlying4 (by kernel_rfl) (hval 2 36 v2 rfl rfl) hf
  clear hA0 hval0
  have hk0 : kwf .u32 a0 := by simpa [Lit.wf, kwf] using w0
  -- PRE: what the spec asks (['hk0']), then rfl
  refine (calls_of_holds linkAll_ok Try.call4 (w := W) (vals := #[.int .u32 a0, v1, v2]) (args := [.int .u32 a0, .sl 4 xs1, .sl 4 xs2]) rfl (fun j v hj => ?_) ⟨hk0, rfl⟩).mono fun e W' ⟨he, bel⟩ => ?_
  · rcases j with _ | _ | _ | j
    · simp at hj; subst hj; exact .int hk0
    · simp at hj; subst hj; exact w1
    · simp at hj; subst hj; exact w2
    · simp at hj
  subst he
  exact ⟨_, rfl, _, _, _, [], _, [], hW', trodAll_mk1 (shut_bool Try.underlying4 _), (trodAll_cons_mk (shut_int Try.underlying22 w0) (trodAll_cons_mk (Below.trod laidA (by kernel_rfl) (of_decide_eq_true (by kernel_rfl)) k1 bel lt1) (trodAll_cons_mk (Below.trod laidA (by kernel_rfl) (of_decide_eq_true (by kernel_rfl)) k2 bel lt2) trodAll_mk0))), rfl, bel.frame _, fun h => by cases h⟩

theorem linkAll_said : Rows.LinkAllSaid :=
  OpenClaim.holds_of_wide 4 Try.f4 rfl rfl rfl rfl rfl rfl rfl ⟨rfl, rfl, rfl, rfl, rfl⟩ rfl rfl rfl rfl rfl (by kernel_rfl) Try.func4 (by kernel_rfl)
    (of_decide_eq_true (by kernel_rfl)) (by unfold Func.isWrapper; first | (rw [if_pos (by decide +kernel)]; kernel_rfl) | (rw [if_neg (by decide +kernel)]; exact ⟨rfl, rfl⟩))
    (fun os started H enc _ => linkAllLifted os started H enc)
#print axioms linkAll_said
end Go.Proofs.Ytpkfadgennejnaa


