/- LinkRises, in the form for arguments of bounded bulk (..UptoSaid): the numbers of what is taken rise over all ticks, nothing is taken twice, what is dropped was no newer than what was taken ahead. Any link, any ticks' messages within the row's bound. -/
import Derived.Test.YtpkfadgennejnaaLkK
import Derived.Test.YtpkfadgennejnaaRows
namespace Go.Proofs.Ytpkfadgennejnaa
open Go Go.Eng Go.Lk Go.Proofs
set_option linter.unusedVariables false
set_option maxHeartbeats 2000000 in
theorem linkRises_vc (an : Bool) (la : Int) (la0 : (0 : Int) ≤ la) (la1 : la ≤ (4294967295 : Int)) (ag : Int) (ag0 : (-9223372036854775808 : Int) ≤ ag) (ag1 : ag ≤ (9223372036854775807 : Int)) (ticks : List (List Msg)) (h01 : ticks.length ≤ (1048576 : Nat)) (k : AV → List (Option Blk) → List Blk → Prop) (hk : k (AV.bool true) [] []) :
  ∀ (n1 : Int),
  (n1 = (↑ticks.length : Int)) →
  ((-9223372036854775808 : Int) ≤ n1 ∧ n1 ≤ (9223372036854775807 : Int)) →
  br (decide (n1 > (30 : Int)))
   ((k (AV.bool true) [] []))
   (∀ (n4 : Int),
    (n4 = la) →
    ((0 : Int) ≤ n4 ∧ n4 ≤ (4294967295 : Int)) →
    (
     ∃ (v : Int × Bool × Int × Int),
     (ticks = ticks) ∧
     (true = true) ∧
     (n4 = v.snd.snd.fst) ∧
     (an = v.snd.fst) ∧
     ((0 : Int) = v.fst) ∧
     (an = v.snd.fst) ∧
     (la = v.snd.snd.fst) ∧
     (ag = v.snd.snd.snd) ∧
     (
      ((0 : Int) ≤ v.fst) ∧
      (v.fst ≤ (↑ticks.length : Int))) ∧
     (
      ((0 : Int) ≤ v.snd.snd.fst) ∧
      (v.snd.snd.fst ≤ (4294967295 : Int))) ∧
     (
      ((-9223372036854775808 : Int) ≤ v.snd.snd.snd) ∧
      (v.snd.snd.snd ≤ (9223372036854775807 : Int))) ∧
     (ticks.length ≤ (1048576 : Nat))) ∧
    ∀ (v_7 : Int × Bool × Int × Int),
    (((0 : Int) ≤ v_7.fst ∧ v_7.fst ≤ (↑ticks.length : Int)) ∧ ((0 : Int) ≤ v_7.snd.snd.fst ∧ v_7.snd.snd.fst ≤ (4294967295 : Int)) ∧ ((-9223372036854775808 : Int) ≤ v_7.snd.snd.snd ∧ v_7.snd.snd.snd ≤ (9223372036854775807 : Int)) ∧ ticks.length ≤ (1048576 : Nat)) →
    ∀ (n9 : Int),
    (n9 = (↑ticks.length : Int)) →
    ((-9223372036854775808 : Int) ≤ n9 ∧ n9 ≤ (9223372036854775807 : Int)) →
    br (decide (v_7.fst < n9))
     (((0 : Int) ≤ v_7.fst) ∧
      (v_7.fst < (↑ticks.length : Int)) ∧
      ∀ (n12 : Int),
      (n12 = (↑(ticks.getD v_7.fst.toNat (dflt (11 : Nat))).length : Int)) →
      ((-9223372036854775808 : Int) ≤ n12 ∧ n12 ≤ (9223372036854775807 : Int)) →
      (
       (decide (n12 > (30 : Int)) = false) →
       ((0 : Int) ≤ v_7.fst) ∧
       (v_7.fst < (↑ticks.length : Int))) ∧
      br (decide (n12 > (30 : Int)))
       ((true = true) ∧
        (k (AV.bool true) [] []))
       (((ticks.getD v_7.fst.toNat (dflt (11 : Nat))).length ≤ (1048576 : Nat)) ∧
        ∀ (b_16 : Bool),
        br (bif false then true else b_16)
         ((k (AV.bool true) [] []))
         (((0 : Int) ≤ v_7.fst) ∧
          (v_7.fst < (↑ticks.length : Int)) ∧
          (
           (
            ((0 : Int) ≤ v_7.snd.snd.fst) ∧
            (v_7.snd.snd.fst ≤ (4294967295 : Int))) ∧
           (
            ((-9223372036854775808 : Int) ≤ v_7.snd.snd.snd) ∧
            (v_7.snd.snd.snd ≤ (9223372036854775807 : Int))) ∧
           ∀ (e_17 : Int),
           ∀ (b_18 : Bool),
           ∀ (l_19 : Int),
           ∀ (a_20 : Int),
           ∀ (ys_21 : List Msg),
           (e_17 = lE v_7.snd.fst v_7.snd.snd.fst v_7.snd.snd.snd (ticks.getD v_7.fst.toNat (dflt (11 : Nat)))) →
           ((e_17 ≠ (0 : Int)) →
            (ys_21 = [])) →
           ((e_17 = (0 : Int)) →
            ((b_18, l_19) = stk (v_7.snd.fst, v_7.snd.snd.fst) (ticks.getD v_7.fst.toNat (dflt (11 : Nat)))) ∧
            (ys_21 = tk (v_7.snd.fst, v_7.snd.snd.fst) (ticks.getD v_7.fst.toNat (dflt (11 : Nat)))) ∧
            (a_20 = ageN v_7.snd.snd.snd ys_21.length)) →
           ((0 : Int) ≤ l_19 ∧ l_19 ≤ (4294967295 : Int)) →
           ((-9223372036854775808 : Int) ≤ a_20 ∧ a_20 ≤ (9223372036854775807 : Int)) →
           br (e_17 != (0 : Int))
            (∀ (n27 : Int),
             (n27 = (↑ys_21.length : Int)) →
             (k (AV.bool (bif true then n27 == (0 : Int) else false)) [] []))
            ((
              ∃ (v : Int × Int × Bool × Int × Int × Bool × Int × Bool × Int × Int),
              (ticks = ticks) ∧
              (true = true) ∧
              (v_7.snd.snd.fst = v.snd.snd.snd.fst) ∧
              (v_7.snd.fst = v.snd.snd.fst) ∧
              (v_7.fst = v.snd.snd.snd.snd.fst) ∧
              (ys_21 = tk (v.snd.snd.snd.snd.snd.fst, v.snd.snd.snd.snd.snd.snd.fst) (ticks.getD v.snd.snd.snd.snd.fst.toNat (dflt (11 : Nat)))) ∧
              ((0 : Int) = v.snd.fst) ∧
              ((0 : Int) = v.fst) ∧
              (v_7.snd.fst = v.snd.snd.snd.snd.snd.fst) ∧
              (v_7.snd.snd.fst = v.snd.snd.snd.snd.snd.snd.fst) ∧
              (b_18 = v.snd.snd.snd.snd.snd.snd.snd.fst) ∧
              (l_19 = v.snd.snd.snd.snd.snd.snd.snd.snd.fst) ∧
              (a_20 = v.snd.snd.snd.snd.snd.snd.snd.snd.snd) ∧
              (
               ((0 : Int) ≤ v.fst) ∧
               (v.fst ≤ (↑(ticks.getD v.snd.snd.snd.snd.fst.toNat (dflt (11 : Nat))).length : Int))) ∧
              (
               ((0 : Int) ≤ v.snd.snd.snd.snd.fst) ∧
               (v.snd.snd.snd.snd.fst < (↑ticks.length : Int)) ∧
               (v.snd.snd.snd.snd.fst = (↑v_7.fst.toNat : Int))) ∧
              (RIn (ticks.getD v.snd.snd.snd.snd.fst.toNat (dflt (11 : Nat))) v.fst v.snd.fst v.snd.snd.fst v.snd.snd.snd.fst v.snd.snd.snd.snd.snd.fst v.snd.snd.snd.snd.snd.snd.fst) ∧
              (ROut (ticks.getD v.snd.snd.snd.snd.fst.toNat (dflt (11 : Nat))) v.snd.snd.snd.snd.snd.snd.snd.fst v.snd.snd.snd.snd.snd.snd.snd.snd.fst v.snd.snd.snd.snd.snd.snd.snd.snd.snd v.snd.snd.snd.snd.snd.fst v.snd.snd.snd.snd.snd.snd.fst) ∧
              (
               ((0 : Int) ≤ v.snd.snd.snd.fst) ∧
               (v.snd.snd.snd.fst ≤ (4294967295 : Int))) ∧
              (
               ((0 : Int) ≤ v.snd.snd.snd.snd.snd.snd.snd.snd.fst) ∧
               (v.snd.snd.snd.snd.snd.snd.snd.snd.fst ≤ (4294967295 : Int))) ∧
              (
               ((-9223372036854775808 : Int) ≤ v.snd.snd.snd.snd.snd.snd.snd.snd.snd) ∧
               (v.snd.snd.snd.snd.snd.snd.snd.snd.snd ≤ (9223372036854775807 : Int))) ∧
              ((ticks.getD v.snd.snd.snd.snd.fst.toNat (dflt (11 : Nat))).length ≤ (30 : Nat)) ∧
              ((0 : Int) ≤ v.snd.fst) ∧
              (v.snd.fst ≤ v.fst)) ∧
             ∀ (v_29 : Int × Int × Bool × Int × Int × Bool × Int × Bool × Int × Int),
             (((0 : Int) ≤ v_29.fst ∧ v_29.fst ≤ (↑(ticks.getD v_29.snd.snd.snd.snd.fst.toNat (dflt (11 : Nat))).length : Int)) ∧ ((0 : Int) ≤ v_29.snd.snd.snd.snd.fst ∧ v_29.snd.snd.snd.snd.fst < (↑ticks.length : Int) ∧ v_29.snd.snd.snd.snd.fst = (↑v_7.fst.toNat : Int)) ∧ RIn (ticks.getD v_29.snd.snd.snd.snd.fst.toNat (dflt (11 : Nat))) v_29.fst v_29.snd.fst v_29.snd.snd.fst v_29.snd.snd.snd.fst v_29.snd.snd.snd.snd.snd.fst v_29.snd.snd.snd.snd.snd.snd.fst ∧ ROut (ticks.getD v_29.snd.snd.snd.snd.fst.toNat (dflt (11 : Nat))) v_29.snd.snd.snd.snd.snd.snd.snd.fst v_29.snd.snd.snd.snd.snd.snd.snd.snd.fst v_29.snd.snd.snd.snd.snd.snd.snd.snd.snd v_29.snd.snd.snd.snd.snd.fst v_29.snd.snd.snd.snd.snd.snd.fst ∧ ((0 : Int) ≤ v_29.snd.snd.snd.fst ∧ v_29.snd.snd.snd.fst ≤ (4294967295 : Int)) ∧ ((0 : Int) ≤ v_29.snd.snd.snd.snd.snd.snd.snd.snd.fst ∧ v_29.snd.snd.snd.snd.snd.snd.snd.snd.fst ≤ (4294967295 : Int)) ∧ ((-9223372036854775808 : Int) ≤ v_29.snd.snd.snd.snd.snd.snd.snd.snd.snd ∧ v_29.snd.snd.snd.snd.snd.snd.snd.snd.snd ≤ (9223372036854775807 : Int)) ∧ (ticks.getD v_29.snd.snd.snd.snd.fst.toNat (dflt (11 : Nat))).length ≤ (30 : Nat) ∧ (0 : Int) ≤ v_29.snd.fst ∧ v_29.snd.fst ≤ v_29.fst) →
             ((0 : Int) ≤ v_29.snd.snd.snd.snd.fst) ∧
             (v_29.snd.snd.snd.snd.fst < (↑ticks.length : Int)) ∧
             ∀ (n31 : Int),
             (n31 = (↑(ticks.getD v_29.snd.snd.snd.snd.fst.toNat (dflt (11 : Nat))).length : Int)) →
             ((-9223372036854775808 : Int) ≤ n31 ∧ n31 ≤ (9223372036854775807 : Int)) →
             br (decide (v_29.fst < n31))
              (((0 : Int) ≤ v_29.snd.snd.snd.snd.fst) ∧
               (v_29.snd.snd.snd.snd.fst < (↑ticks.length : Int)) ∧
               ((0 : Int) ≤ v_29.fst) ∧
               (v_29.fst < (↑(ticks.getD v_29.snd.snd.snd.snd.fst.toNat (dflt (11 : Nat))).length : Int)) ∧
               ∀ (n34 : Int),
               (n34 = (↑((ticks.getD v_29.snd.snd.snd.snd.fst.toNat (dflt (11 : Nat))).getD v_29.fst.toNat (dflt (8 : Nat))).seq.toNat : Int)) →
               br (bif v_29.snd.snd.fst then decide (n34 ≤ v_29.snd.snd.snd.fst) else false)
                (∀ (n36 : Int),
                 (n36 = IntKind.i64.wrap (v_29.fst + (1 : Int))) →
                 ((-9223372036854775808 : Int) ≤ n36 ∧ n36 ≤ (9223372036854775807 : Int)) →
                 ∃ (v' : Int × Int × Bool × Int × Int × Bool × Int × Bool × Int × Int),
                 (ticks = ticks) ∧
                 (true = true) ∧
                 (v_29.snd.snd.snd.fst = v'.snd.snd.snd.fst) ∧
                 (v_29.snd.snd.fst = v'.snd.snd.fst) ∧
                 (v_29.snd.snd.snd.snd.fst = v'.snd.snd.snd.snd.fst) ∧
                 (tk (v_29.snd.snd.snd.snd.snd.fst, v_29.snd.snd.snd.snd.snd.snd.fst) (ticks.getD v_29.snd.snd.snd.snd.fst.toNat (dflt (11 : Nat))) = tk (v'.snd.snd.snd.snd.snd.fst, v'.snd.snd.snd.snd.snd.snd.fst) (ticks.getD v'.snd.snd.snd.snd.fst.toNat (dflt (11 : Nat)))) ∧
                 (v_29.snd.fst = v'.snd.fst) ∧
                 (n36 = v'.fst) ∧
                 (v_29.snd.snd.snd.snd.snd.fst = v'.snd.snd.snd.snd.snd.fst) ∧
                 (v_29.snd.snd.snd.snd.snd.snd.fst = v'.snd.snd.snd.snd.snd.snd.fst) ∧
                 (v_29.snd.snd.snd.snd.snd.snd.snd.fst = v'.snd.snd.snd.snd.snd.snd.snd.fst) ∧
                 (v_29.snd.snd.snd.snd.snd.snd.snd.snd.fst = v'.snd.snd.snd.snd.snd.snd.snd.snd.fst) ∧
                 (v_29.snd.snd.snd.snd.snd.snd.snd.snd.snd = v'.snd.snd.snd.snd.snd.snd.snd.snd.snd) ∧
                 (
                  (
                   ((0 : Int) ≤ v'.fst) ∧
                   (v'.fst ≤ (↑(ticks.getD v'.snd.snd.snd.snd.fst.toNat (dflt (11 : Nat))).length : Int))) ∧
                  (
                   ((0 : Int) ≤ v'.snd.snd.snd.snd.fst) ∧
                   (v'.snd.snd.snd.snd.fst < (↑ticks.length : Int)) ∧
                   (v'.snd.snd.snd.snd.fst = (↑v_7.fst.toNat : Int))) ∧
                  (RIn (ticks.getD v'.snd.snd.snd.snd.fst.toNat (dflt (11 : Nat))) v'.fst v'.snd.fst v'.snd.snd.fst v'.snd.snd.snd.fst v'.snd.snd.snd.snd.snd.fst v'.snd.snd.snd.snd.snd.snd.fst) ∧
                  (ROut (ticks.getD v'.snd.snd.snd.snd.fst.toNat (dflt (11 : Nat))) v'.snd.snd.snd.snd.snd.snd.snd.fst v'.snd.snd.snd.snd.snd.snd.snd.snd.fst v'.snd.snd.snd.snd.snd.snd.snd.snd.snd v'.snd.snd.snd.snd.snd.fst v'.snd.snd.snd.snd.snd.snd.fst) ∧
                  (
                   ((0 : Int) ≤ v'.snd.snd.snd.fst) ∧
                   (v'.snd.snd.snd.fst ≤ (4294967295 : Int))) ∧
                  (
                   ((0 : Int) ≤ v'.snd.snd.snd.snd.snd.snd.snd.snd.fst) ∧
                   (v'.snd.snd.snd.snd.snd.snd.snd.snd.fst ≤ (4294967295 : Int))) ∧
                  (
                   ((-9223372036854775808 : Int) ≤ v'.snd.snd.snd.snd.snd.snd.snd.snd.snd) ∧
                   (v'.snd.snd.snd.snd.snd.snd.snd.snd.snd ≤ (9223372036854775807 : Int))) ∧
                  ((ticks.getD v'.snd.snd.snd.snd.fst.toNat (dflt (11 : Nat))).length ≤ (30 : Nat)) ∧
                  ((0 : Int) ≤ v'.snd.fst) ∧
                  (v'.snd.fst ≤ v'.fst)) ∧
                 (((↑(ticks.getD v'.snd.snd.snd.snd.fst.toNat (dflt (11 : Nat))).length : Int) - v'.fst).toNat < ((↑(ticks.getD v_29.snd.snd.snd.snd.fst.toNat (dflt (11 : Nat))).length : Int) - v_29.fst).toNat))
                (∀ (n39 : Int),
                 (n39 = (↑(tk (v_29.snd.snd.snd.snd.snd.fst, v_29.snd.snd.snd.snd.snd.snd.fst) (ticks.getD v_29.snd.snd.snd.snd.fst.toNat (dflt (11 : Nat)))).length : Int)) →
                 ((-9223372036854775808 : Int) ≤ n39 ∧ n39 ≤ (9223372036854775807 : Int)) →
                 (
                  (decide (v_29.snd.fst ≥ n39) = false) →
                  ((0 : Int) ≤ v_29.snd.fst) ∧
                  (v_29.snd.fst < (↑(tk (v_29.snd.snd.snd.snd.snd.fst, v_29.snd.snd.snd.snd.snd.snd.fst) (ticks.getD v_29.snd.snd.snd.snd.fst.toNat (dflt (11 : Nat)))).length : Int))) ∧
                 ∀ (n43 : Int),
                 (n43 = (↑((tk (v_29.snd.snd.snd.snd.snd.fst, v_29.snd.snd.snd.snd.snd.snd.fst) (ticks.getD v_29.snd.snd.snd.snd.fst.toNat (dflt (11 : Nat)))).getD v_29.snd.fst.toNat (dflt (8 : Nat))).seq.toNat : Int)) →
                 ∀ (n45 : Int),
                 (n45 = (↑((ticks.getD v_29.snd.snd.snd.snd.fst.toNat (dflt (11 : Nat))).getD v_29.fst.toNat (dflt (8 : Nat))).seq.toNat : Int)) →
                 (
                  ((bif decide (v_29.snd.fst ≥ n39) then true else n43 != n45) = false) →
                  ((0 : Int) ≤ v_29.snd.fst) ∧
                  (v_29.snd.fst < (↑(tk (v_29.snd.snd.snd.snd.snd.fst, v_29.snd.snd.snd.snd.snd.snd.fst) (ticks.getD v_29.snd.snd.snd.snd.fst.toNat (dflt (11 : Nat)))).length : Int))) ∧
                 ∀ (n48 : Int),
                 (n48 = (↑((tk (v_29.snd.snd.snd.snd.snd.fst, v_29.snd.snd.snd.snd.snd.snd.fst) (ticks.getD v_29.snd.snd.snd.snd.fst.toNat (dflt (11 : Nat)))).getD v_29.snd.fst.toNat (dflt (8 : Nat))).kind.toNat : Int)) →
                 ∀ (n50 : Int),
                 (n50 = (↑((ticks.getD v_29.snd.snd.snd.snd.fst.toNat (dflt (11 : Nat))).getD v_29.fst.toNat (dflt (8 : Nat))).kind.toNat : Int)) →
                 (
                  ((bif bif decide (v_29.snd.fst ≥ n39) then true else n43 != n45 then true else n48 != n50) = false) →
                  ((0 : Int) ≤ v_29.snd.fst) ∧
                  (v_29.snd.fst < (↑(tk (v_29.snd.snd.snd.snd.snd.fst, v_29.snd.snd.snd.snd.snd.snd.fst) (ticks.getD v_29.snd.snd.snd.snd.fst.toNat (dflt (11 : Nat)))).length : Int))) ∧
                 br (bif bif bif decide (v_29.snd.fst ≥ n39) then true else n43 != n45 then true else n48 != n50 then true else !{ data := ((tk (v_29.snd.snd.snd.snd.snd.fst, v_29.snd.snd.snd.snd.snd.snd.fst) (ticks.getD v_29.snd.snd.snd.snd.fst.toNat (dflt (11 : Nat)))).getD v_29.snd.fst.toNat (dflt (8 : Nat))).body.toArray : ByteArray }.data.toList == { data := ((ticks.getD v_29.snd.snd.snd.snd.fst.toNat (dflt (11 : Nat))).getD v_29.fst.toNat (dflt (8 : Nat))).body.toArray : ByteArray }.data.toList)
                  ((k (AV.bool false) [] []))
                  (∀ (n53 : Int),
                   (n53 = (↑((ticks.getD v_29.snd.snd.snd.snd.fst.toNat (dflt (11 : Nat))).getD v_29.fst.toNat (dflt (8 : Nat))).seq.toNat : Int)) →
                   ((0 : Int) ≤ n53 ∧ n53 ≤ (4294967295 : Int)) →
                   ∀ (n56 : Int),
                   (n56 = IntKind.i64.wrap (v_29.snd.fst + (1 : Int))) →
                   ((-9223372036854775808 : Int) ≤ n56 ∧ n56 ≤ (9223372036854775807 : Int)) →
                   ∀ (n59 : Int),
                   (n59 = IntKind.i64.wrap (v_29.fst + (1 : Int))) →
                   ((-9223372036854775808 : Int) ≤ n59 ∧ n59 ≤ (9223372036854775807 : Int)) →
                   ∃ (v' : Int × Int × Bool × Int × Int × Bool × Int × Bool × Int × Int),
                   (ticks = ticks) ∧
                   (true = true) ∧
                   (n53 = v'.snd.snd.snd.fst) ∧
                   (true = v'.snd.snd.fst) ∧
                   (v_29.snd.snd.snd.snd.fst = v'.snd.snd.snd.snd.fst) ∧
                   (tk (v_29.snd.snd.snd.snd.snd.fst, v_29.snd.snd.snd.snd.snd.snd.fst) (ticks.getD v_29.snd.snd.snd.snd.fst.toNat (dflt (11 : Nat))) = tk (v'.snd.snd.snd.snd.snd.fst, v'.snd.snd.snd.snd.snd.snd.fst) (ticks.getD v'.snd.snd.snd.snd.fst.toNat (dflt (11 : Nat)))) ∧
                   (n56 = v'.snd.fst) ∧
                   (n59 = v'.fst) ∧
                   (v_29.snd.snd.snd.snd.snd.fst = v'.snd.snd.snd.snd.snd.fst) ∧
                   (v_29.snd.snd.snd.snd.snd.snd.fst = v'.snd.snd.snd.snd.snd.snd.fst) ∧
                   (v_29.snd.snd.snd.snd.snd.snd.snd.fst = v'.snd.snd.snd.snd.snd.snd.snd.fst) ∧
                   (v_29.snd.snd.snd.snd.snd.snd.snd.snd.fst = v'.snd.snd.snd.snd.snd.snd.snd.snd.fst) ∧
                   (v_29.snd.snd.snd.snd.snd.snd.snd.snd.snd = v'.snd.snd.snd.snd.snd.snd.snd.snd.snd) ∧
                   (
                    (
                     ((0 : Int) ≤ v'.fst) ∧
                     (v'.fst ≤ (↑(ticks.getD v'.snd.snd.snd.snd.fst.toNat (dflt (11 : Nat))).length : Int))) ∧
                    (
                     ((0 : Int) ≤ v'.snd.snd.snd.snd.fst) ∧
                     (v'.snd.snd.snd.snd.fst < (↑ticks.length : Int)) ∧
                     (v'.snd.snd.snd.snd.fst = (↑v_7.fst.toNat : Int))) ∧
                    (RIn (ticks.getD v'.snd.snd.snd.snd.fst.toNat (dflt (11 : Nat))) v'.fst v'.snd.fst v'.snd.snd.fst v'.snd.snd.snd.fst v'.snd.snd.snd.snd.snd.fst v'.snd.snd.snd.snd.snd.snd.fst) ∧
                    (ROut (ticks.getD v'.snd.snd.snd.snd.fst.toNat (dflt (11 : Nat))) v'.snd.snd.snd.snd.snd.snd.snd.fst v'.snd.snd.snd.snd.snd.snd.snd.snd.fst v'.snd.snd.snd.snd.snd.snd.snd.snd.snd v'.snd.snd.snd.snd.snd.fst v'.snd.snd.snd.snd.snd.snd.fst) ∧
                    (
                     ((0 : Int) ≤ v'.snd.snd.snd.fst) ∧
                     (v'.snd.snd.snd.fst ≤ (4294967295 : Int))) ∧
                    (
                     ((0 : Int) ≤ v'.snd.snd.snd.snd.snd.snd.snd.snd.fst) ∧
                     (v'.snd.snd.snd.snd.snd.snd.snd.snd.fst ≤ (4294967295 : Int))) ∧
                    (
                     ((-9223372036854775808 : Int) ≤ v'.snd.snd.snd.snd.snd.snd.snd.snd.snd) ∧
                     (v'.snd.snd.snd.snd.snd.snd.snd.snd.snd ≤ (9223372036854775807 : Int))) ∧
                    ((ticks.getD v'.snd.snd.snd.snd.fst.toNat (dflt (11 : Nat))).length ≤ (30 : Nat)) ∧
                    ((0 : Int) ≤ v'.snd.fst) ∧
                    (v'.snd.fst ≤ v'.fst)) ∧
                   (((↑(ticks.getD v'.snd.snd.snd.snd.fst.toNat (dflt (11 : Nat))).length : Int) - v'.fst).toNat < ((↑(ticks.getD v_29.snd.snd.snd.snd.fst.toNat (dflt (11 : Nat))).length : Int) - v_29.fst).toNat))))
              (∀ (n62 : Int),
               (n62 = (↑(tk (v_29.snd.snd.snd.snd.snd.fst, v_29.snd.snd.snd.snd.snd.snd.fst) (ticks.getD v_29.snd.snd.snd.snd.fst.toNat (dflt (11 : Nat)))).length : Int)) →
               ((-9223372036854775808 : Int) ≤ n62 ∧ n62 ≤ (9223372036854775807 : Int)) →
               ∀ (n65 : Int),
               (n65 = v_29.snd.snd.snd.snd.snd.snd.snd.snd.fst) →
               ∀ (n67 : Int),
               (n67 = v_29.snd.snd.snd.snd.snd.snd.snd.snd.snd) →
               ∀ (n69 : Int),
               (n69 = (↑(tk (v_29.snd.snd.snd.snd.snd.fst, v_29.snd.snd.snd.snd.snd.snd.fst) (ticks.getD v_29.snd.snd.snd.snd.fst.toNat (dflt (11 : Nat)))).length : Int)) →
               br (bif bif bif v_29.snd.fst != n62 then true else !v_29.snd.snd.snd.snd.snd.snd.snd.fst == v_29.snd.snd.fst then true else bif v_29.snd.snd.fst then n65 != v_29.snd.snd.snd.fst else false then true else !(n67 == (0 : Int)) == decide (n69 > (0 : Int)))
                ((k (AV.bool false) [] []))
                (∀ (n71 : Int),
                 (n71 = IntKind.i64.wrap (v_29.snd.snd.snd.snd.fst + (1 : Int))) →
                 ((-9223372036854775808 : Int) ≤ n71 ∧ n71 ≤ (9223372036854775807 : Int)) →
                 ∃ (v' : Int × Bool × Int × Int),
                 (ticks = ticks) ∧
                 (true = true) ∧
                 (v_29.snd.snd.snd.fst = v'.snd.snd.fst) ∧
                 (v_29.snd.snd.fst = v'.snd.fst) ∧
                 (n71 = v'.fst) ∧
                 (v_29.snd.snd.snd.snd.snd.snd.snd.fst = v'.snd.fst) ∧
                 (v_29.snd.snd.snd.snd.snd.snd.snd.snd.fst = v'.snd.snd.fst) ∧
                 (v_29.snd.snd.snd.snd.snd.snd.snd.snd.snd = v'.snd.snd.snd) ∧
                 (
                  (
                   ((0 : Int) ≤ v'.fst) ∧
                   (v'.fst ≤ (↑ticks.length : Int))) ∧
                  (
                   ((0 : Int) ≤ v'.snd.snd.fst) ∧
                   (v'.snd.snd.fst ≤ (4294967295 : Int))) ∧
                  (
                   ((-9223372036854775808 : Int) ≤ v'.snd.snd.snd) ∧
                   (v'.snd.snd.snd ≤ (9223372036854775807 : Int))) ∧
                  (ticks.length ≤ (1048576 : Nat))) ∧
                 (((↑ticks.length : Int) - v'.fst).toNat < ((↑ticks.length : Int) - v_7.fst).toNat))))) ∧
          (
           ((0 : Int) ≤ v_7.snd.snd.fst) ∧
           (v_7.snd.snd.fst ≤ (4294967295 : Int))) ∧
          (
           ((-9223372036854775808 : Int) ≤ v_7.snd.snd.snd) ∧
           (v_7.snd.snd.snd ≤ (9223372036854775807 : Int))) ∧
          ∀ (e_74 : Int),
          ∀ (b_75 : Bool),
          ∀ (l_76 : Int),
          ∀ (a_77 : Int),
          ∀ (ys_78 : List Msg),
          (e_74 = lE v_7.snd.fst v_7.snd.snd.fst v_7.snd.snd.snd (ticks.getD v_7.fst.toNat (dflt (11 : Nat)))) →
          ((e_74 ≠ (0 : Int)) →
           (ys_78 = [])) →
          ((e_74 = (0 : Int)) →
           ((b_75, l_76) = stk (v_7.snd.fst, v_7.snd.snd.fst) (ticks.getD v_7.fst.toNat (dflt (11 : Nat)))) ∧
           (ys_78 = tk (v_7.snd.fst, v_7.snd.snd.fst) (ticks.getD v_7.fst.toNat (dflt (11 : Nat)))) ∧
           (a_77 = ageN v_7.snd.snd.snd ys_78.length)) →
          ((0 : Int) ≤ l_76 ∧ l_76 ≤ (4294967295 : Int)) →
          ((-9223372036854775808 : Int) ≤ a_77 ∧ a_77 ≤ (9223372036854775807 : Int)) →
          br (e_74 != (0 : Int))
           (∀ (n84 : Int),
            (n84 = (↑ys_78.length : Int)) →
            (k (AV.bool (bif true then n84 == (0 : Int) else false)) [] []))
           ((
             ∃ (v : Int × Int × Bool × Int × Int × Bool × Int × Bool × Int × Int),
             (ticks = ticks) ∧
             (true = true) ∧
             (v_7.snd.snd.fst = v.snd.snd.snd.fst) ∧
             (v_7.snd.fst = v.snd.snd.fst) ∧
             (v_7.fst = v.snd.snd.snd.snd.fst) ∧
             (ys_78 = tk (v.snd.snd.snd.snd.snd.fst, v.snd.snd.snd.snd.snd.snd.fst) (ticks.getD v.snd.snd.snd.snd.fst.toNat (dflt (11 : Nat)))) ∧
             ((0 : Int) = v.snd.fst) ∧
             ((0 : Int) = v.fst) ∧
             (v_7.snd.fst = v.snd.snd.snd.snd.snd.fst) ∧
             (v_7.snd.snd.fst = v.snd.snd.snd.snd.snd.snd.fst) ∧
             (b_75 = v.snd.snd.snd.snd.snd.snd.snd.fst) ∧
             (l_76 = v.snd.snd.snd.snd.snd.snd.snd.snd.fst) ∧
             (a_77 = v.snd.snd.snd.snd.snd.snd.snd.snd.snd) ∧
             (
              ((0 : Int) ≤ v.fst) ∧
              (v.fst ≤ (↑(ticks.getD v.snd.snd.snd.snd.fst.toNat (dflt (11 : Nat))).length : Int))) ∧
             (
              ((0 : Int) ≤ v.snd.snd.snd.snd.fst) ∧
              (v.snd.snd.snd.snd.fst < (↑ticks.length : Int)) ∧
              (v.snd.snd.snd.snd.fst = (↑v_7.fst.toNat : Int))) ∧
             (RIn (ticks.getD v.snd.snd.snd.snd.fst.toNat (dflt (11 : Nat))) v.fst v.snd.fst v.snd.snd.fst v.snd.snd.snd.fst v.snd.snd.snd.snd.snd.fst v.snd.snd.snd.snd.snd.snd.fst) ∧
             (ROut (ticks.getD v.snd.snd.snd.snd.fst.toNat (dflt (11 : Nat))) v.snd.snd.snd.snd.snd.snd.snd.fst v.snd.snd.snd.snd.snd.snd.snd.snd.fst v.snd.snd.snd.snd.snd.snd.snd.snd.snd v.snd.snd.snd.snd.snd.fst v.snd.snd.snd.snd.snd.snd.fst) ∧
             (
              ((0 : Int) ≤ v.snd.snd.snd.fst) ∧
              (v.snd.snd.snd.fst ≤ (4294967295 : Int))) ∧
             (
              ((0 : Int) ≤ v.snd.snd.snd.snd.snd.snd.snd.snd.fst) ∧
              (v.snd.snd.snd.snd.snd.snd.snd.snd.fst ≤ (4294967295 : Int))) ∧
             (
              ((-9223372036854775808 : Int) ≤ v.snd.snd.snd.snd.snd.snd.snd.snd.snd) ∧
              (v.snd.snd.snd.snd.snd.snd.snd.snd.snd ≤ (9223372036854775807 : Int))) ∧
             ((ticks.getD v.snd.snd.snd.snd.fst.toNat (dflt (11 : Nat))).length ≤ (30 : Nat)) ∧
             ((0 : Int) ≤ v.snd.fst) ∧
             (v.snd.fst ≤ v.fst)) ∧
            ∀ (v_86 : Int × Int × Bool × Int × Int × Bool × Int × Bool × Int × Int),
            (((0 : Int) ≤ v_86.fst ∧ v_86.fst ≤ (↑(ticks.getD v_86.snd.snd.snd.snd.fst.toNat (dflt (11 : Nat))).length : Int)) ∧ ((0 : Int) ≤ v_86.snd.snd.snd.snd.fst ∧ v_86.snd.snd.snd.snd.fst < (↑ticks.length : Int) ∧ v_86.snd.snd.snd.snd.fst = (↑v_7.fst.toNat : Int)) ∧ RIn (ticks.getD v_86.snd.snd.snd.snd.fst.toNat (dflt (11 : Nat))) v_86.fst v_86.snd.fst v_86.snd.snd.fst v_86.snd.snd.snd.fst v_86.snd.snd.snd.snd.snd.fst v_86.snd.snd.snd.snd.snd.snd.fst ∧ ROut (ticks.getD v_86.snd.snd.snd.snd.fst.toNat (dflt (11 : Nat))) v_86.snd.snd.snd.snd.snd.snd.snd.fst v_86.snd.snd.snd.snd.snd.snd.snd.snd.fst v_86.snd.snd.snd.snd.snd.snd.snd.snd.snd v_86.snd.snd.snd.snd.snd.fst v_86.snd.snd.snd.snd.snd.snd.fst ∧ ((0 : Int) ≤ v_86.snd.snd.snd.fst ∧ v_86.snd.snd.snd.fst ≤ (4294967295 : Int)) ∧ ((0 : Int) ≤ v_86.snd.snd.snd.snd.snd.snd.snd.snd.fst ∧ v_86.snd.snd.snd.snd.snd.snd.snd.snd.fst ≤ (4294967295 : Int)) ∧ ((-9223372036854775808 : Int) ≤ v_86.snd.snd.snd.snd.snd.snd.snd.snd.snd ∧ v_86.snd.snd.snd.snd.snd.snd.snd.snd.snd ≤ (9223372036854775807 : Int)) ∧ (ticks.getD v_86.snd.snd.snd.snd.fst.toNat (dflt (11 : Nat))).length ≤ (30 : Nat) ∧ (0 : Int) ≤ v_86.snd.fst ∧ v_86.snd.fst ≤ v_86.fst) →
            ((0 : Int) ≤ v_86.snd.snd.snd.snd.fst) ∧
            (v_86.snd.snd.snd.snd.fst < (↑ticks.length : Int)) ∧
            ∀ (n88 : Int),
            (n88 = (↑(ticks.getD v_86.snd.snd.snd.snd.fst.toNat (dflt (11 : Nat))).length : Int)) →
            ((-9223372036854775808 : Int) ≤ n88 ∧ n88 ≤ (9223372036854775807 : Int)) →
            br (decide (v_86.fst < n88))
             (((0 : Int) ≤ v_86.snd.snd.snd.snd.fst) ∧
              (v_86.snd.snd.snd.snd.fst < (↑ticks.length : Int)) ∧
              ((0 : Int) ≤ v_86.fst) ∧
              (v_86.fst < (↑(ticks.getD v_86.snd.snd.snd.snd.fst.toNat (dflt (11 : Nat))).length : Int)) ∧
              ∀ (n91 : Int),
              (n91 = (↑((ticks.getD v_86.snd.snd.snd.snd.fst.toNat (dflt (11 : Nat))).getD v_86.fst.toNat (dflt (8 : Nat))).seq.toNat : Int)) →
              br (bif v_86.snd.snd.fst then decide (n91 ≤ v_86.snd.snd.snd.fst) else false)
               (∀ (n93 : Int),
                (n93 = IntKind.i64.wrap (v_86.fst + (1 : Int))) →
                ((-9223372036854775808 : Int) ≤ n93 ∧ n93 ≤ (9223372036854775807 : Int)) →
                ∃ (v' : Int × Int × Bool × Int × Int × Bool × Int × Bool × Int × Int),
                (ticks = ticks) ∧
                (true = true) ∧
                (v_86.snd.snd.snd.fst = v'.snd.snd.snd.fst) ∧
                (v_86.snd.snd.fst = v'.snd.snd.fst) ∧
                (v_86.snd.snd.snd.snd.fst = v'.snd.snd.snd.snd.fst) ∧
                (tk (v_86.snd.snd.snd.snd.snd.fst, v_86.snd.snd.snd.snd.snd.snd.fst) (ticks.getD v_86.snd.snd.snd.snd.fst.toNat (dflt (11 : Nat))) = tk (v'.snd.snd.snd.snd.snd.fst, v'.snd.snd.snd.snd.snd.snd.fst) (ticks.getD v'.snd.snd.snd.snd.fst.toNat (dflt (11 : Nat)))) ∧
                (v_86.snd.fst = v'.snd.fst) ∧
                (n93 = v'.fst) ∧
                (v_86.snd.snd.snd.snd.snd.fst = v'.snd.snd.snd.snd.snd.fst) ∧
                (v_86.snd.snd.snd.snd.snd.snd.fst = v'.snd.snd.snd.snd.snd.snd.fst) ∧
                (v_86.snd.snd.snd.snd.snd.snd.snd.fst = v'.snd.snd.snd.snd.snd.snd.snd.fst) ∧
                (v_86.snd.snd.snd.snd.snd.snd.snd.snd.fst = v'.snd.snd.snd.snd.snd.snd.snd.snd.fst) ∧
                (v_86.snd.snd.snd.snd.snd.snd.snd.snd.snd = v'.snd.snd.snd.snd.snd.snd.snd.snd.snd) ∧
                (
                 (
                  ((0 : Int) ≤ v'.fst) ∧
                  (v'.fst ≤ (↑(ticks.getD v'.snd.snd.snd.snd.fst.toNat (dflt (11 : Nat))).length : Int))) ∧
                 (
                  ((0 : Int) ≤ v'.snd.snd.snd.snd.fst) ∧
                  (v'.snd.snd.snd.snd.fst < (↑ticks.length : Int)) ∧
                  (v'.snd.snd.snd.snd.fst = (↑v_7.fst.toNat : Int))) ∧
                 (RIn (ticks.getD v'.snd.snd.snd.snd.fst.toNat (dflt (11 : Nat))) v'.fst v'.snd.fst v'.snd.snd.fst v'.snd.snd.snd.fst v'.snd.snd.snd.snd.snd.fst v'.snd.snd.snd.snd.snd.snd.fst) ∧
                 (ROut (ticks.getD v'.snd.snd.snd.snd.fst.toNat (dflt (11 : Nat))) v'.snd.snd.snd.snd.snd.snd.snd.fst v'.snd.snd.snd.snd.snd.snd.snd.snd.fst v'.snd.snd.snd.snd.snd.snd.snd.snd.snd v'.snd.snd.snd.snd.snd.fst v'.snd.snd.snd.snd.snd.snd.fst) ∧
                 (
                  ((0 : Int) ≤ v'.snd.snd.snd.fst) ∧
                  (v'.snd.snd.snd.fst ≤ (4294967295 : Int))) ∧
                 (
                  ((0 : Int) ≤ v'.snd.snd.snd.snd.snd.snd.snd.snd.fst) ∧
                  (v'.snd.snd.snd.snd.snd.snd.snd.snd.fst ≤ (4294967295 : Int))) ∧
                 (
                  ((-9223372036854775808 : Int) ≤ v'.snd.snd.snd.snd.snd.snd.snd.snd.snd) ∧
                  (v'.snd.snd.snd.snd.snd.snd.snd.snd.snd ≤ (9223372036854775807 : Int))) ∧
                 ((ticks.getD v'.snd.snd.snd.snd.fst.toNat (dflt (11 : Nat))).length ≤ (30 : Nat)) ∧
                 ((0 : Int) ≤ v'.snd.fst) ∧
                 (v'.snd.fst ≤ v'.fst)) ∧
                (((↑(ticks.getD v'.snd.snd.snd.snd.fst.toNat (dflt (11 : Nat))).length : Int) - v'.fst).toNat < ((↑(ticks.getD v_86.snd.snd.snd.snd.fst.toNat (dflt (11 : Nat))).length : Int) - v_86.fst).toNat))
               (∀ (n96 : Int),
                (n96 = (↑(tk (v_86.snd.snd.snd.snd.snd.fst, v_86.snd.snd.snd.snd.snd.snd.fst) (ticks.getD v_86.snd.snd.snd.snd.fst.toNat (dflt (11 : Nat)))).length : Int)) →
                ((-9223372036854775808 : Int) ≤ n96 ∧ n96 ≤ (9223372036854775807 : Int)) →
                (
                 (decide (v_86.snd.fst ≥ n96) = false) →
                 ((0 : Int) ≤ v_86.snd.fst) ∧
                 (v_86.snd.fst < (↑(tk (v_86.snd.snd.snd.snd.snd.fst, v_86.snd.snd.snd.snd.snd.snd.fst) (ticks.getD v_86.snd.snd.snd.snd.fst.toNat (dflt (11 : Nat)))).length : Int))) ∧
                ∀ (n100 : Int),
                (n100 = (↑((tk (v_86.snd.snd.snd.snd.snd.fst, v_86.snd.snd.snd.snd.snd.snd.fst) (ticks.getD v_86.snd.snd.snd.snd.fst.toNat (dflt (11 : Nat)))).getD v_86.snd.fst.toNat (dflt (8 : Nat))).seq.toNat : Int)) →
                ∀ (n102 : Int),
                (n102 = (↑((ticks.getD v_86.snd.snd.snd.snd.fst.toNat (dflt (11 : Nat))).getD v_86.fst.toNat (dflt (8 : Nat))).seq.toNat : Int)) →
                (
                 ((bif decide (v_86.snd.fst ≥ n96) then true else n100 != n102) = false) →
                 ((0 : Int) ≤ v_86.snd.fst) ∧
                 (v_86.snd.fst < (↑(tk (v_86.snd.snd.snd.snd.snd.fst, v_86.snd.snd.snd.snd.snd.snd.fst) (ticks.getD v_86.snd.snd.snd.snd.fst.toNat (dflt (11 : Nat)))).length : Int))) ∧
                ∀ (n105 : Int),
                (n105 = (↑((tk (v_86.snd.snd.snd.snd.snd.fst, v_86.snd.snd.snd.snd.snd.snd.fst) (ticks.getD v_86.snd.snd.snd.snd.fst.toNat (dflt (11 : Nat)))).getD v_86.snd.fst.toNat (dflt (8 : Nat))).kind.toNat : Int)) →
                ∀ (n107 : Int),
                (n107 = (↑((ticks.getD v_86.snd.snd.snd.snd.fst.toNat (dflt (11 : Nat))).getD v_86.fst.toNat (dflt (8 : Nat))).kind.toNat : Int)) →
                (
                 ((bif bif decide (v_86.snd.fst ≥ n96) then true else n100 != n102 then true else n105 != n107) = false) →
                 ((0 : Int) ≤ v_86.snd.fst) ∧
                 (v_86.snd.fst < (↑(tk (v_86.snd.snd.snd.snd.snd.fst, v_86.snd.snd.snd.snd.snd.snd.fst) (ticks.getD v_86.snd.snd.snd.snd.fst.toNat (dflt (11 : Nat)))).length : Int))) ∧
                br (bif bif bif decide (v_86.snd.fst ≥ n96) then true else n100 != n102 then true else n105 != n107 then true else !{ data := ((tk (v_86.snd.snd.snd.snd.snd.fst, v_86.snd.snd.snd.snd.snd.snd.fst) (ticks.getD v_86.snd.snd.snd.snd.fst.toNat (dflt (11 : Nat)))).getD v_86.snd.fst.toNat (dflt (8 : Nat))).body.toArray : ByteArray }.data.toList == { data := ((ticks.getD v_86.snd.snd.snd.snd.fst.toNat (dflt (11 : Nat))).getD v_86.fst.toNat (dflt (8 : Nat))).body.toArray : ByteArray }.data.toList)
                 ((k (AV.bool false) [] []))
                 (∀ (n110 : Int),
                  (n110 = (↑((ticks.getD v_86.snd.snd.snd.snd.fst.toNat (dflt (11 : Nat))).getD v_86.fst.toNat (dflt (8 : Nat))).seq.toNat : Int)) →
                  ((0 : Int) ≤ n110 ∧ n110 ≤ (4294967295 : Int)) →
                  ∀ (n113 : Int),
                  (n113 = IntKind.i64.wrap (v_86.snd.fst + (1 : Int))) →
                  ((-9223372036854775808 : Int) ≤ n113 ∧ n113 ≤ (9223372036854775807 : Int)) →
                  ∀ (n116 : Int),
                  (n116 = IntKind.i64.wrap (v_86.fst + (1 : Int))) →
                  ((-9223372036854775808 : Int) ≤ n116 ∧ n116 ≤ (9223372036854775807 : Int)) →
                  ∃ (v' : Int × Int × Bool × Int × Int × Bool × Int × Bool × Int × Int),
                  (ticks = ticks) ∧
                  (true = true) ∧
                  (n110 = v'.snd.snd.snd.fst) ∧
                  (true = v'.snd.snd.fst) ∧
                  (v_86.snd.snd.snd.snd.fst = v'.snd.snd.snd.snd.fst) ∧
                  (tk (v_86.snd.snd.snd.snd.snd.fst, v_86.snd.snd.snd.snd.snd.snd.fst) (ticks.getD v_86.snd.snd.snd.snd.fst.toNat (dflt (11 : Nat))) = tk (v'.snd.snd.snd.snd.snd.fst, v'.snd.snd.snd.snd.snd.snd.fst) (ticks.getD v'.snd.snd.snd.snd.fst.toNat (dflt (11 : Nat)))) ∧
                  (n113 = v'.snd.fst) ∧
                  (n116 = v'.fst) ∧
                  (v_86.snd.snd.snd.snd.snd.fst = v'.snd.snd.snd.snd.snd.fst) ∧
                  (v_86.snd.snd.snd.snd.snd.snd.fst = v'.snd.snd.snd.snd.snd.snd.fst) ∧
                  (v_86.snd.snd.snd.snd.snd.snd.snd.fst = v'.snd.snd.snd.snd.snd.snd.snd.fst) ∧
                  (v_86.snd.snd.snd.snd.snd.snd.snd.snd.fst = v'.snd.snd.snd.snd.snd.snd.snd.snd.fst) ∧
                  (v_86.snd.snd.snd.snd.snd.snd.snd.snd.snd = v'.snd.snd.snd.snd.snd.snd.snd.snd.snd) ∧
                  (
                   (
                    ((0 : Int) ≤ v'.fst) ∧
                    (v'.fst ≤ (↑(ticks.getD v'.snd.snd.snd.snd.fst.toNat (dflt (11 : Nat))).length : Int))) ∧
                   (
                    ((0 : Int) ≤ v'.snd.snd.snd.snd.fst) ∧
                    (v'.snd.snd.snd.snd.fst < (↑ticks.length : Int)) ∧
                    (v'.snd.snd.snd.snd.fst = (↑v_7.fst.toNat : Int))) ∧
                   (RIn (ticks.getD v'.snd.snd.snd.snd.fst.toNat (dflt (11 : Nat))) v'.fst v'.snd.fst v'.snd.snd.fst v'.snd.snd.snd.fst v'.snd.snd.snd.snd.snd.fst v'.snd.snd.snd.snd.snd.snd.fst) ∧
                   (ROut (ticks.getD v'.snd.snd.snd.snd.fst.toNat (dflt (11 : Nat))) v'.snd.snd.snd.snd.snd.snd.snd.fst v'.snd.snd.snd.snd.snd.snd.snd.snd.fst v'.snd.snd.snd.snd.snd.snd.snd.snd.snd v'.snd.snd.snd.snd.snd.fst v'.snd.snd.snd.snd.snd.snd.fst) ∧
                   (
                    ((0 : Int) ≤ v'.snd.snd.snd.fst) ∧
                    (v'.snd.snd.snd.fst ≤ (4294967295 : Int))) ∧
                   (
                    ((0 : Int) ≤ v'.snd.snd.snd.snd.snd.snd.snd.snd.fst) ∧
                    (v'.snd.snd.snd.snd.snd.snd.snd.snd.fst ≤ (4294967295 : Int))) ∧
                   (
                    ((-9223372036854775808 : Int) ≤ v'.snd.snd.snd.snd.snd.snd.snd.snd.snd) ∧
                    (v'.snd.snd.snd.snd.snd.snd.snd.snd.snd ≤ (9223372036854775807 : Int))) ∧
                   ((ticks.getD v'.snd.snd.snd.snd.fst.toNat (dflt (11 : Nat))).length ≤ (30 : Nat)) ∧
                   ((0 : Int) ≤ v'.snd.fst) ∧
                   (v'.snd.fst ≤ v'.fst)) ∧
                  (((↑(ticks.getD v'.snd.snd.snd.snd.fst.toNat (dflt (11 : Nat))).length : Int) - v'.fst).toNat < ((↑(ticks.getD v_86.snd.snd.snd.snd.fst.toNat (dflt (11 : Nat))).length : Int) - v_86.fst).toNat))))
             (∀ (n119 : Int),
              (n119 = (↑(tk (v_86.snd.snd.snd.snd.snd.fst, v_86.snd.snd.snd.snd.snd.snd.fst) (ticks.getD v_86.snd.snd.snd.snd.fst.toNat (dflt (11 : Nat)))).length : Int)) →
              ((-9223372036854775808 : Int) ≤ n119 ∧ n119 ≤ (9223372036854775807 : Int)) →
              ∀ (n122 : Int),
              (n122 = v_86.snd.snd.snd.snd.snd.snd.snd.snd.fst) →
              ∀ (n124 : Int),
              (n124 = v_86.snd.snd.snd.snd.snd.snd.snd.snd.snd) →
              ∀ (n126 : Int),
              (n126 = (↑(tk (v_86.snd.snd.snd.snd.snd.fst, v_86.snd.snd.snd.snd.snd.snd.fst) (ticks.getD v_86.snd.snd.snd.snd.fst.toNat (dflt (11 : Nat)))).length : Int)) →
              br (bif bif bif v_86.snd.fst != n119 then true else !v_86.snd.snd.snd.snd.snd.snd.snd.fst == v_86.snd.snd.fst then true else bif v_86.snd.snd.fst then n122 != v_86.snd.snd.snd.fst else false then true else !(n124 == (0 : Int)) == decide (n126 > (0 : Int)))
               ((k (AV.bool false) [] []))
               (∀ (n128 : Int),
                (n128 = IntKind.i64.wrap (v_86.snd.snd.snd.snd.fst + (1 : Int))) →
                ((-9223372036854775808 : Int) ≤ n128 ∧ n128 ≤ (9223372036854775807 : Int)) →
                ∃ (v' : Int × Bool × Int × Int),
                (ticks = ticks) ∧
                (true = true) ∧
                (v_86.snd.snd.snd.fst = v'.snd.snd.fst) ∧
                (v_86.snd.snd.fst = v'.snd.fst) ∧
                (n128 = v'.fst) ∧
                (v_86.snd.snd.snd.snd.snd.snd.snd.fst = v'.snd.fst) ∧
                (v_86.snd.snd.snd.snd.snd.snd.snd.snd.fst = v'.snd.snd.fst) ∧
                (v_86.snd.snd.snd.snd.snd.snd.snd.snd.snd = v'.snd.snd.snd) ∧
                (
                 (
                  ((0 : Int) ≤ v'.fst) ∧
                  (v'.fst ≤ (↑ticks.length : Int))) ∧
                 (
                  ((0 : Int) ≤ v'.snd.snd.fst) ∧
                  (v'.snd.snd.fst ≤ (4294967295 : Int))) ∧
                 (
                  ((-9223372036854775808 : Int) ≤ v'.snd.snd.snd) ∧
                  (v'.snd.snd.snd ≤ (9223372036854775807 : Int))) ∧
                 (ticks.length ≤ (1048576 : Nat))) ∧
                (((↑ticks.length : Int) - v'.fst).toNat < ((↑ticks.length : Int) - v_7.fst).toNat)))))))
     ((k (AV.bool true) [] []))) := by
  intro n1
  intro q1 -- n1 = (↑ticks.length : Int)
  intro ⟨l1, u1⟩ -- (-9223372036854775808 : Int) ≤ n1 ∧ n1 ≤ (9223372036854775807 : Int)
  refine brd (fun c1 => ?_) (fun c1 => ?_) -- decide (n1 > (30 : Int))
  · -- yes
    exact by exact hk -- k (AV.bool true) [] []
  · -- no
    intro n4
    intro q4 -- n4 = la
    intro ⟨l4, u4⟩ -- (0 : Int) ≤ n4 ∧ n4 ≤ (4294967295 : Int)
    refine ⟨?_, ?_⟩
    · -- left
      refine ⟨((0 : Int), an, n4, ag), ?_⟩
      refine ⟨by first | with_reducible rfl | rfl, ?_⟩ -- ticks = ticks
      refine ⟨by first | with_reducible rfl | rfl, ?_⟩ -- true = true
      refine ⟨by first | with_reducible rfl | rfl, ?_⟩ -- n4 = n4
      refine ⟨by first | with_reducible rfl | rfl, ?_⟩ -- an = an
      refine ⟨by first | with_reducible rfl | rfl, ?_⟩ -- (0 : Int) = (0 : Int)
      refine ⟨by first | with_reducible rfl | rfl, ?_⟩ -- an = an
      refine ⟨by show la = n4; omega, ?_⟩ -- la = n4
      refine ⟨by first | with_reducible rfl | rfl, ?_⟩ -- ag = ag
      refine ⟨by first | omega | (dsimp only; omega), ?_⟩ -- (0 : Int) ≤ (0 : Int) ∧ (0 : Int) ≤ (↑ticks.length : Int)
      refine ⟨by exact ⟨by assumption, by assumption⟩, ?_⟩ -- (0 : Int) ≤ n4 ∧ n4 ≤ (4294967295 : Int)
      refine ⟨by exact ⟨by assumption, by assumption⟩, ?_⟩ -- (-9223372036854775808 : Int) ≤ ag ∧ ag ≤ (9223372036854775807 : Int)
      exact by show ticks.length ≤ (1048576 : Nat); assumption -- ticks.length ≤ (1048576 : Nat)
    intro v_7
    intro h2 -- ((0 : Int) ≤ v_7.fst ∧ v_7.fst ≤ (↑ticks.length : Int)) ∧ ((0 : Int) ≤ v_7.snd.snd.fst ∧ v_7.snd.snd.fst ≤ (4294967295 : Int)) ∧ ((-9223372036854775808 : Int) ≤ v_7.snd.snd.snd ∧ v_7.snd.snd.snd ≤ (9223372036854775807 : Int)) ∧ ticks.length ≤ (1048576 : Nat)
    intro n9
    intro q9 -- n9 = (↑ticks.length : Int)
    intro ⟨l9, u9⟩ -- (-9223372036854775808 : Int) ≤ n9 ∧ n9 ≤ (9223372036854775807 : Int)
    refine brd (fun c3 => ?_) (fun c3 => ?_) -- decide (v_7.fst < n9)
    · -- yes
      refine ⟨by first | omega | (dsimp only; omega), ?_⟩ -- (0 : Int) ≤ v_7.fst
      refine ⟨by first | omega | (dsimp only; omega), ?_⟩ -- v_7.fst < (↑ticks.length : Int)
      intro n12
      intro q12 -- n12 = (↑(ticks.getD v_7.fst.toNat (dflt (11 : Nat))).length : Int)
      intro ⟨l12, u12⟩ -- (-9223372036854775808 : Int) ≤ n12 ∧ n12 ≤ (9223372036854775807 : Int)
      refine ⟨?_, ?_⟩
      · -- left
        intro h4 -- decide (n12 > (30 : Int)) = false
        simp at h4 -- n12 ≤ (30 : Int)
        refine ⟨by first | omega | (dsimp only; omega), ?_⟩ -- (0 : Int) ≤ v_7.fst
        exact by omega -- v_7.fst < (↑ticks.length : Int)
      refine brd (fun c5 => ?_) (fun c5 => ?_) -- decide (n12 > (30 : Int))
      · -- yes
        refine ⟨by with_reducible rfl, ?_⟩ -- true = true
        exact by exact hk -- k (AV.bool true) [] []
      · -- no
        refine ⟨by first | omega | (dsimp only; omega), ?_⟩ -- (ticks.getD v_7.fst.toNat (dflt (11 : Nat))).length ≤ (1048576 : Nat)
        intro b_16
        refine br_intro (fun c6 => ?_) (fun c6 => ?_) -- bif false then true else b_16
        · -- yes
          exact by exact hk -- k (AV.bool true) [] []
        · -- no
          refine ⟨by first | omega | (dsimp only; omega), ?_⟩ -- (0 : Int) ≤ v_7.fst
          refine ⟨by first | omega | (dsimp only; omega), ?_⟩ -- v_7.fst < (↑ticks.length : Int)
          refine ⟨?_, ?_⟩
          · -- left
            refine ⟨by first | omega | (dsimp only; omega), ?_⟩ -- (0 : Int) ≤ v_7.snd.snd.fst ∧ v_7.snd.snd.fst ≤ (4294967295 : Int)
            refine ⟨by first | omega | (dsimp only; omega), ?_⟩ -- (-9223372036854775808 : Int) ≤ v_7.snd.snd.snd ∧ v_7.snd.snd.snd ≤ (9223372036854775807 : Int)
            intro e_17
            intro b_18
            intro l_19
            intro a_20
            intro ys_21
            intro h7 -- e_17 = lE v_7.snd.fst v_7.snd.snd.fst v_7.snd.snd.snd (ticks.getD v_7.fst.toNat (dflt (11 : Nat)))
            intro h8 -- e_17 ≠ (0 : Int) → ys_21 = []
            intro h9 -- e_17 = (0 : Int) → (b_18, l_19) = stk (v_7.snd.fst, v_7.snd.snd.fst) (ticks.getD v_7.fst.toNat (dflt (11 : Nat))) ∧ ys_21 = tk (v_7.snd.fst, v_7.snd.snd.fst) (ticks.getD v_7.fst.toNat (dflt (11 : Nat))) ∧ a_20 = ageN v_7.snd.snd.snd ys_21.length
            intro ⟨a10, b10⟩ -- (0 : Int) ≤ l_19 ∧ l_19 ≤ (4294967295 : Int)
            intro ⟨a11, b11⟩ -- (-9223372036854775808 : Int) ≤ a_20 ∧ a_20 ≤ (9223372036854775807 : Int)
            refine br_intro (fun c12 => ?_) (fun c12 => ?_) -- e_17 != (0 : Int)
            · -- yes
              simp at c12 -- ¬e_17 = (0 : Int)
              intro n27
              intro q27 -- n27 = (↑ys_21.length : Int)
              -- k (AV.bool (bif true then n27 == (0 : Int) else false)) [] []
              rw [h8 c12] at q27
              exact k_true hk (by rw [q27]; rfl)
            · -- no
              simp at c12 -- e_17 = (0 : Int)
              refine ⟨?_, ?_⟩
              · -- left
                refine ⟨((0 : Int), (0 : Int), v_7.snd.fst, v_7.snd.snd.fst, v_7.fst, v_7.snd.fst, v_7.snd.snd.fst, b_18, l_19, a_20), ?_⟩
                refine ⟨by first | with_reducible rfl | rfl, ?_⟩ -- ticks = ticks
                refine ⟨by first | with_reducible rfl | rfl, ?_⟩ -- true = true
                refine ⟨by first | with_reducible rfl | rfl, ?_⟩ -- v_7.snd.snd.fst = v_7.snd.snd.fst
                refine ⟨by first | with_reducible rfl | rfl, ?_⟩ -- v_7.snd.fst = v_7.snd.fst
                refine ⟨by first | with_reducible rfl | rfl, ?_⟩ -- v_7.fst = v_7.fst
                have h13 : ys_21 = tk (v_7.snd.fst, v_7.snd.snd.fst) (ticks.getD v_7.fst.toNat (dflt (11 : Nat))) := by
                  exact (h9 c12).2.1
                refine ⟨h13, ?_⟩
                refine ⟨by first | with_reducible rfl | rfl, ?_⟩ -- (0 : Int) = (0 : Int)
                refine ⟨by first | with_reducible rfl | rfl, ?_⟩ -- (0 : Int) = (0 : Int)
                refine ⟨by first | with_reducible rfl | rfl, ?_⟩ -- v_7.snd.fst = v_7.snd.fst
                refine ⟨by first | with_reducible rfl | rfl, ?_⟩ -- v_7.snd.snd.fst = v_7.snd.snd.fst
                refine ⟨by first | with_reducible rfl | rfl, ?_⟩ -- b_18 = b_18
                refine ⟨by first | with_reducible rfl | rfl, ?_⟩ -- l_19 = l_19
                refine ⟨by first | with_reducible rfl | rfl, ?_⟩ -- a_20 = a_20
                refine ⟨by first | omega | (dsimp only; omega), ?_⟩ -- (0 : Int) ≤ (0 : Int) ∧ (0 : Int) ≤ (↑(ticks.getD v_7.fst.toNat (dflt (11 : Nat))).length : Int)
                refine ⟨?_, ?_⟩
                · -- left
                  refine ⟨by show (0 : Int) ≤ v_7.fst; omega, ?_⟩ -- (0 : Int) ≤ v_7.fst
                  refine ⟨by show v_7.fst < (↑ticks.length : Int); omega, ?_⟩ -- v_7.fst < (↑ticks.length : Int)
                  exact by show v_7.fst = (↑v_7.fst.toNat : Int); omega -- v_7.fst = (↑v_7.fst.toNat : Int)
                have h14 : RIn (ticks.getD v_7.fst.toNat (dflt (11 : Nat))) (0 : Int) (0 : Int) v_7.snd.fst v_7.snd.snd.fst v_7.snd.fst v_7.snd.snd.fst := by
                  exact ⟨rfl, rfl⟩
                refine ⟨h14, ?_⟩
                have h15 : ROut (ticks.getD v_7.fst.toNat (dflt (11 : Nat))) b_18 l_19 a_20 v_7.snd.fst v_7.snd.snd.fst := by
                  exact ⟨(h9 c12).1, by have g := lE_nb (h7.symm.trans c12); rw [(h9 c12).2.2, age0 g.1, ← (h9 c12).2.1]⟩
                refine ⟨h15, ?_⟩
                refine ⟨by first | omega | (dsimp only; omega), ?_⟩ -- (0 : Int) ≤ v_7.snd.snd.fst ∧ v_7.snd.snd.fst ≤ (4294967295 : Int)
                refine ⟨by exact ⟨by assumption, by assumption⟩, ?_⟩ -- (0 : Int) ≤ l_19 ∧ l_19 ≤ (4294967295 : Int)
                refine ⟨by exact ⟨by assumption, by assumption⟩, ?_⟩ -- (-9223372036854775808 : Int) ≤ a_20 ∧ a_20 ≤ (9223372036854775807 : Int)
                refine ⟨by show (ticks.getD v_7.fst.toNat (dflt (11 : Nat))).length ≤ (30 : Nat); omega, ?_⟩ -- (ticks.getD v_7.fst.toNat (dflt (11 : Nat))).length ≤ (30 : Nat)
                refine ⟨by show (0 : Int) ≤ (0 : Int); omega, ?_⟩ -- (0 : Int) ≤ (0 : Int)
                exact by show (0 : Int) ≤ (0 : Int); omega -- (0 : Int) ≤ (0 : Int)
              intro v_29
              intro h16 -- ((0 : Int) ≤ v_29.fst ∧ v_29.fst ≤ (↑(ticks.getD v_29.snd.snd.snd.snd.fst.toNat (dflt (11 : Nat))).length : Int)) ∧ ((0 : Int) ≤ v_29.snd.snd.snd.snd.fst ∧ v_29.snd.snd.snd.snd.fst < (↑ticks.length : Int) ∧ v_29.snd.snd.snd.snd.fst = (↑v_7.fst.toNat : Int)) ∧ RIn (ticks.getD v_29.snd.snd.snd.snd.fst.toNat (dflt (11 : Nat))) v_29.fst v_29.snd.fst v_29.snd.snd.fst v_29.snd.snd.snd.fst v_29.snd.snd.snd.snd.snd.fst v_29.snd.snd.snd.snd.snd.snd.fst ∧ ROut (ticks.getD v_29.snd.snd.snd.snd.fst.toNat (dflt (11 : Nat))) v_29.snd.snd.snd.snd.snd.snd.snd.fst v_29.snd.snd.snd.snd.snd.snd.snd.snd.fst v_29.snd.snd.snd.snd.snd.snd.snd.snd.snd v_29.snd.snd.snd.snd.snd.fst v_29.snd.snd.snd.snd.snd.snd.fst ∧ ((0 : Int) ≤ v_29.snd.snd.snd.fst ∧ v_29.snd.snd.snd.fst ≤ (4294967295 : Int)) ∧ ((0 : Int) ≤ v_29.snd.snd.snd.snd.snd.snd.snd.snd.fst ∧ v_29.snd.snd.snd.snd.snd.snd.snd.snd.fst ≤ (4294967295 : Int)) ∧ ((-9223372036854775808 : Int) ≤ v_29.snd.snd.snd.snd.snd.snd.snd.snd.snd ∧ v_29.snd.snd.snd.snd.snd.snd.snd.snd.snd ≤ (9223372036854775807 : Int)) ∧ (ticks.getD v_29.snd.snd.snd.snd.fst.toNat (dflt (11 : Nat))).length ≤ (30 : Nat) ∧ (0 : Int) ≤ v_29.snd.fst ∧ v_29.snd.fst ≤ v_29.fst
              refine ⟨by first | omega | (dsimp only; omega), ?_⟩ -- (0 : Int) ≤ v_29.snd.snd.snd.snd.fst
              refine ⟨by first | omega | (dsimp only; omega), ?_⟩ -- v_29.snd.snd.snd.snd.fst < (↑ticks.length : Int)
              intro n31
              intro q31 -- n31 = (↑(ticks.getD v_29.snd.snd.snd.snd.fst.toNat (dflt (11 : Nat))).length : Int)
              intro ⟨l31, u31⟩ -- (-9223372036854775808 : Int) ≤ n31 ∧ n31 ≤ (9223372036854775807 : Int)
              refine brd (fun c17 => ?_) (fun c17 => ?_) -- decide (v_29.fst < n31)
              · -- yes
                refine ⟨by first | omega | (dsimp only; omega), ?_⟩ -- (0 : Int) ≤ v_29.snd.snd.snd.snd.fst
                refine ⟨by first | omega | (dsimp only; omega), ?_⟩ -- v_29.snd.snd.snd.snd.fst < (↑ticks.length : Int)
                refine ⟨by first | omega | (dsimp only; omega), ?_⟩ -- (0 : Int) ≤ v_29.fst
                refine ⟨by first | omega | (dsimp only; omega), ?_⟩ -- v_29.fst < (↑(ticks.getD v_29.snd.snd.snd.snd.fst.toNat (dflt (11 : Nat))).length : Int)
                intro n34
                intro q34 -- n34 = (↑((ticks.getD v_29.snd.snd.snd.snd.fst.toNat (dflt (11 : Nat))).getD v_29.fst.toNat (dflt (8 : Nat))).seq.toNat : Int)
                refine br_intro (fun c18 => ?_) (fun c18 => ?_) -- bif v_29.snd.snd.fst then decide (n34 ≤ v_29.snd.snd.snd.fst) else false
                · -- yes
                  simp at c18 -- v_29.snd.snd.fst = true ∧ n34 ≤ v_29.snd.snd.snd.fst
                  intro n36
                  intro q36 -- n36 = IntKind.i64.wrap (v_29.fst + (1 : Int))
                  rw [IntKind.wrap_i64] at q36
                  intro ⟨l36, u36⟩ -- (-9223372036854775808 : Int) ≤ n36 ∧ n36 ≤ (9223372036854775807 : Int)
                  refine ⟨(n36, v_29.snd.fst, v_29.snd.snd.fst, v_29.snd.snd.snd.fst, v_29.snd.snd.snd.snd.fst, v_29.snd.snd.snd.snd.snd.fst, v_29.snd.snd.snd.snd.snd.snd.fst, v_29.snd.snd.snd.snd.snd.snd.snd.fst, v_29.snd.snd.snd.snd.snd.snd.snd.snd.fst, v_29.snd.snd.snd.snd.snd.snd.snd.snd.snd), ?_⟩
                  refine ⟨by first | with_reducible rfl | rfl, ?_⟩ -- ticks = ticks
                  refine ⟨by first | with_reducible rfl | rfl, ?_⟩ -- true = true
                  refine ⟨by first | with_reducible rfl | rfl, ?_⟩ -- v_29.snd.snd.snd.fst = v_29.snd.snd.snd.fst
                  refine ⟨by first | with_reducible rfl | rfl, ?_⟩ -- v_29.snd.snd.fst = v_29.snd.snd.fst
                  refine ⟨by first | with_reducible rfl | rfl, ?_⟩ -- v_29.snd.snd.snd.snd.fst = v_29.snd.snd.snd.snd.fst
                  refine ⟨by first | with_reducible rfl | rfl, ?_⟩ -- tk (v_29.snd.snd.snd.snd.snd.fst, v_29.snd.snd.snd.snd.snd.snd.fst) (ticks.getD v_29.snd.snd.snd.snd.fst.toNat (dflt (11 : Nat))) = tk (v_29.snd.snd.snd.snd.snd.fst, v_29.snd.snd.snd.snd.snd.snd.fst) (ticks.getD v_29.snd.snd.snd.snd.fst.toNat (dflt (11 : Nat)))
                  refine ⟨by first | with_reducible rfl | rfl, ?_⟩ -- v_29.snd.fst = v_29.snd.fst
                  refine ⟨by first | with_reducible rfl | rfl, ?_⟩ -- n36 = n36
                  refine ⟨by first | with_reducible rfl | rfl, ?_⟩ -- v_29.snd.snd.snd.snd.snd.fst = v_29.snd.snd.snd.snd.snd.fst
                  refine ⟨by first | with_reducible rfl | rfl, ?_⟩ -- v_29.snd.snd.snd.snd.snd.snd.fst = v_29.snd.snd.snd.snd.snd.snd.fst
                  refine ⟨by first | with_reducible rfl | rfl, ?_⟩ -- v_29.snd.snd.snd.snd.snd.snd.snd.fst = v_29.snd.snd.snd.snd.snd.snd.snd.fst
                  refine ⟨by first | with_reducible rfl | rfl, ?_⟩ -- v_29.snd.snd.snd.snd.snd.snd.snd.snd.fst = v_29.snd.snd.snd.snd.snd.snd.snd.snd.fst
                  refine ⟨by first | with_reducible rfl | rfl, ?_⟩ -- v_29.snd.snd.snd.snd.snd.snd.snd.snd.snd = v_29.snd.snd.snd.snd.snd.snd.snd.snd.snd
                  refine ⟨?_, ?_⟩
                  · -- left
                    refine ⟨by first | omega | (dsimp only; omega), ?_⟩ -- (0 : Int) ≤ n36 ∧ n36 ≤ (↑(ticks.getD v_29.snd.snd.snd.snd.fst.toNat (dflt (11 : Nat))).length : Int)
                    refine ⟨?_, ?_⟩
                    · -- left
                      refine ⟨by show (0 : Int) ≤ v_29.snd.snd.snd.snd.fst; omega, ?_⟩ -- (0 : Int) ≤ v_29.snd.snd.snd.snd.fst
                      refine ⟨by show v_29.snd.snd.snd.snd.fst < (↑ticks.length : Int); omega, ?_⟩ -- v_29.snd.snd.snd.snd.fst < (↑ticks.length : Int)
                      exact by show v_29.snd.snd.snd.snd.fst = (↑v_7.fst.toNat : Int); omega -- v_29.snd.snd.snd.snd.fst = (↑v_7.fst.toNat : Int)
                    have h19 : RIn (ticks.getD v_29.snd.snd.snd.snd.fst.toNat (dflt (11 : Nat))) n36 v_29.snd.fst v_29.snd.snd.fst v_29.snd.snd.snd.fst v_29.snd.snd.snd.snd.snd.fst v_29.snd.snd.snd.snd.snd.snd.fst := by
                      exact rin_old h16.2.2.1 (by omega) (by omega) c18.1 (by rw [← q34]; exact c18.2) (by omega)
                    refine ⟨h19, ?_⟩
                    have h20 : ROut (ticks.getD v_29.snd.snd.snd.snd.fst.toNat (dflt (11 : Nat))) v_29.snd.snd.snd.snd.snd.snd.snd.fst v_29.snd.snd.snd.snd.snd.snd.snd.snd.fst v_29.snd.snd.snd.snd.snd.snd.snd.snd.snd v_29.snd.snd.snd.snd.snd.fst v_29.snd.snd.snd.snd.snd.snd.fst := by
                      exact h16.2.2.2.1
                    refine ⟨h20, ?_⟩
                    refine ⟨by first | omega | (dsimp only; omega), ?_⟩ -- (0 : Int) ≤ v_29.snd.snd.snd.fst ∧ v_29.snd.snd.snd.fst ≤ (4294967295 : Int)
                    refine ⟨by first | omega | (dsimp only; omega), ?_⟩ -- (0 : Int) ≤ v_29.snd.snd.snd.snd.snd.snd.snd.snd.fst ∧ v_29.snd.snd.snd.snd.snd.snd.snd.snd.fst ≤ (4294967295 : Int)
                    refine ⟨by first | omega | (dsimp only; omega), ?_⟩ -- (-9223372036854775808 : Int) ≤ v_29.snd.snd.snd.snd.snd.snd.snd.snd.snd ∧ v_29.snd.snd.snd.snd.snd.snd.snd.snd.snd ≤ (9223372036854775807 : Int)
                    refine ⟨by show (ticks.getD v_29.snd.snd.snd.snd.fst.toNat (dflt (11 : Nat))).length ≤ (30 : Nat); omega, ?_⟩ -- (ticks.getD v_29.snd.snd.snd.snd.fst.toNat (dflt (11 : Nat))).length ≤ (30 : Nat)
                    refine ⟨by show (0 : Int) ≤ v_29.snd.fst; omega, ?_⟩ -- (0 : Int) ≤ v_29.snd.fst
                    exact by show v_29.snd.fst ≤ n36; omega -- v_29.snd.fst ≤ n36
                  exact by show ((↑(ticks.getD v_29.snd.snd.snd.snd.fst.toNat (dflt (11 : Nat))).length : Int) - n36).toNat < ((↑(ticks.getD v_29.snd.snd.snd.snd.fst.toNat (dflt (11 : Nat))).length : Int) - v_29.fst).toNat; omega -- ((↑(ticks.getD v_29.snd.snd.snd.snd.fst.toNat (dflt (11 : Nat))).length : Int) - n36).toNat < ((↑(ticks.getD v_29.snd.snd.snd.snd.fst.toNat (dflt (11 : Nat))).length : Int) - v_29.fst).toNat
                · -- no
                  simp at c18 -- v_29.snd.snd.fst = true → v_29.snd.snd.snd.fst < n34
                  intro n39
                  intro q39 -- n39 = (↑(tk (v_29.snd.snd.snd.snd.snd.fst, v_29.snd.snd.snd.snd.snd.snd.fst) (ticks.getD v_29.snd.snd.snd.snd.fst.toNat (dflt (11 : Nat)))).length : Int)
                  intro ⟨l39, u39⟩ -- (-9223372036854775808 : Int) ≤ n39 ∧ n39 ≤ (9223372036854775807 : Int)
                  refine ⟨?_, ?_⟩
                  · -- left
                    intro h21 -- decide (v_29.snd.fst ≥ n39) = false
                    simp at h21 -- v_29.snd.fst < n39
                    refine ⟨by first | omega | (dsimp only; omega), ?_⟩ -- (0 : Int) ≤ v_29.snd.fst
                    exact by omega -- v_29.snd.fst < (↑(tk (v_29.snd.snd.snd.snd.snd.fst, v_29.snd.snd.snd.snd.snd.snd.fst) (ticks.getD v_29.snd.snd.snd.snd.fst.toNat (dflt (11 : Nat)))).length : Int)
                  intro n43
                  intro q43 -- n43 = (↑((tk (v_29.snd.snd.snd.snd.snd.fst, v_29.snd.snd.snd.snd.snd.snd.fst) (ticks.getD v_29.snd.snd.snd.snd.fst.toNat (dflt (11 : Nat)))).getD v_29.snd.fst.toNat (dflt (8 : Nat))).seq.toNat : Int)
                  intro n45
                  intro q45 -- n45 = (↑((ticks.getD v_29.snd.snd.snd.snd.fst.toNat (dflt (11 : Nat))).getD v_29.fst.toNat (dflt (8 : Nat))).seq.toNat : Int)
                  refine ⟨?_, ?_⟩
                  · -- left
                    intro q45 -- (bif decide (v_29.snd.fst ≥ n39) then true else n43 != n45) = false
                    simp at q45 -- v_29.snd.fst < n39 ∧ n43 = n45
                    refine ⟨by first | omega | (dsimp only; omega), ?_⟩ -- (0 : Int) ≤ v_29.snd.fst
                    exact by omega -- v_29.snd.fst < (↑(tk (v_29.snd.snd.snd.snd.snd.fst, v_29.snd.snd.snd.snd.snd.snd.fst) (ticks.getD v_29.snd.snd.snd.snd.fst.toNat (dflt (11 : Nat)))).length : Int)
                  intro n48
                  intro q48 -- n48 = (↑((tk (v_29.snd.snd.snd.snd.snd.fst, v_29.snd.snd.snd.snd.snd.snd.fst) (ticks.getD v_29.snd.snd.snd.snd.fst.toNat (dflt (11 : Nat)))).getD v_29.snd.fst.toNat (dflt (8 : Nat))).kind.toNat : Int)
                  intro n50
                  intro q50 -- n50 = (↑((ticks.getD v_29.snd.snd.snd.snd.fst.toNat (dflt (11 : Nat))).getD v_29.fst.toNat (dflt (8 : Nat))).kind.toNat : Int)
                  refine ⟨?_, ?_⟩
                  · -- left
                    intro q50 -- (bif bif decide (v_29.snd.fst ≥ n39) then true else n43 != n45 then true else n48 != n50) = false
                    simp at q50 -- (v_29.snd.fst < n39 ∧ n43 = n45) ∧ n48 = n50
                    refine ⟨by first | omega | (dsimp only; omega), ?_⟩ -- (0 : Int) ≤ v_29.snd.fst
                    exact by omega -- v_29.snd.fst < (↑(tk (v_29.snd.snd.snd.snd.snd.fst, v_29.snd.snd.snd.snd.snd.snd.fst) (ticks.getD v_29.snd.snd.snd.snd.fst.toNat (dflt (11 : Nat)))).length : Int)
                  refine br_intro (fun c22 => ?_) (fun c22 => ?_) -- bif bif bif decide (v_29.snd.fst ≥ n39) then true else n43 != n45 then true else n48 != n50 then true else !{ data := ((tk (v_29.snd.snd.snd.snd.snd.fst, v_29.snd.snd.snd.snd.snd.snd.fst) (ticks.getD v_29.snd.snd.snd.snd.fst.toNat (dflt (11 : Nat)))).getD v_29.snd.fst.toNat (dflt (8 : Nat))).body.toArray : ByteArray }.data.toList == { data := ((ticks.getD v_29.snd.snd.snd.snd.fst.toNat (dflt (11 : Nat))).getD v_29.fst.toNat (dflt (8 : Nat))).body.toArray : ByteArray }.data.toList
                  · -- yes
                    simp at c22 -- ((n39 ≤ v_29.snd.fst ∨ ¬n43 = n45) ∨ ¬n48 = n50) ∨ ¬((tk (v_29.snd.snd.snd.snd.snd.fst, v_29.snd.snd.snd.snd.snd.snd.fst) (ticks[v_29.snd.snd.snd.snd.fst.toNat]?.getD (dflt (11 : Nat))))[v_29.snd.fst.toNat]?.getD (dflt (8 : Nat))).body = ((ticks[v_29.snd.snd.snd.snd.fst.toNat]?.getD (dflt (11 : Nat)))[v_29.fst.toNat]?.getD (dflt (8 : Nat))).body
                    -- k (AV.bool false) [] []
                    exfalso
                    have A := rin_at h16.2.2.1 (by omega) (by omega) (fun e => by have := c18 e; omega)
                    have A' := A.2
                    simp only [List.getD_eq_getElem?_getD] at A'
                    rcases c22 with ((c | c) | c) | c
                    · omega
                    · exact c (by rw [q43, q45, A.2])
                    · exact c (by rw [q48, q50, A.2])
                    · exact c (by rw [A'])
                  · -- no
                    simp at c22 -- ((v_29.snd.fst < n39 ∧ n43 = n45) ∧ n48 = n50) ∧ ((tk (v_29.snd.snd.snd.snd.snd.fst, v_29.snd.snd.snd.snd.snd.snd.fst) (ticks[v_29.snd.snd.snd.snd.fst.toNat]?.getD (dflt (11 : Nat))))[v_29.snd.fst.toNat]?.getD (dflt (8 : Nat))).body = ((ticks[v_29.snd.snd.snd.snd.fst.toNat]?.getD (dflt (11 : Nat)))[v_29.fst.toNat]?.getD (dflt (8 : Nat))).body
                    intro n53
                    intro q53 -- n53 = (↑((ticks.getD v_29.snd.snd.snd.snd.fst.toNat (dflt (11 : Nat))).getD v_29.fst.toNat (dflt (8 : Nat))).seq.toNat : Int)
                    intro ⟨l53, u53⟩ -- (0 : Int) ≤ n53 ∧ n53 ≤ (4294967295 : Int)
                    intro n56
                    intro q56 -- n56 = IntKind.i64.wrap (v_29.snd.fst + (1 : Int))
                    rw [IntKind.wrap_i64] at q56
                    intro ⟨l56, u56⟩ -- (-9223372036854775808 : Int) ≤ n56 ∧ n56 ≤ (9223372036854775807 : Int)
                    intro n59
                    intro q59 -- n59 = IntKind.i64.wrap (v_29.fst + (1 : Int))
                    rw [IntKind.wrap_i64] at q59
                    intro ⟨l59, u59⟩ -- (-9223372036854775808 : Int) ≤ n59 ∧ n59 ≤ (9223372036854775807 : Int)
                    refine ⟨(n59, n56, true, n53, v_29.snd.snd.snd.snd.fst, v_29.snd.snd.snd.snd.snd.fst, v_29.snd.snd.snd.snd.snd.snd.fst, v_29.snd.snd.snd.snd.snd.snd.snd.fst, v_29.snd.snd.snd.snd.snd.snd.snd.snd.fst, v_29.snd.snd.snd.snd.snd.snd.snd.snd.snd), ?_⟩
                    refine ⟨by first | with_reducible rfl | rfl, ?_⟩ -- ticks = ticks
                    refine ⟨by first | with_reducible rfl | rfl, ?_⟩ -- true = true
                    refine ⟨by first | with_reducible rfl | rfl, ?_⟩ -- n53 = n53
                    refine ⟨by first | with_reducible rfl | rfl, ?_⟩ -- true = true
                    refine ⟨by first | with_reducible rfl | rfl, ?_⟩ -- v_29.snd.snd.snd.snd.fst = v_29.snd.snd.snd.snd.fst
                    refine ⟨by first | with_reducible rfl | rfl, ?_⟩ -- tk (v_29.snd.snd.snd.snd.snd.fst, v_29.snd.snd.snd.snd.snd.snd.fst) (ticks.getD v_29.snd.snd.snd.snd.fst.toNat (dflt (11 : Nat))) = tk (v_29.snd.snd.snd.snd.snd.fst, v_29.snd.snd.snd.snd.snd.snd.fst) (ticks.getD v_29.snd.snd.snd.snd.fst.toNat (dflt (11 : Nat)))
                    refine ⟨by first | with_reducible rfl | rfl, ?_⟩ -- n56 = n56
                    refine ⟨by first | with_reducible rfl | rfl, ?_⟩ -- n59 = n59
                    refine ⟨by first | with_reducible rfl | rfl, ?_⟩ -- v_29.snd.snd.snd.snd.snd.fst = v_29.snd.snd.snd.snd.snd.fst
                    refine ⟨by first | with_reducible rfl | rfl, ?_⟩ -- v_29.snd.snd.snd.snd.snd.snd.fst = v_29.snd.snd.snd.snd.snd.snd.fst
                    refine ⟨by first | with_reducible rfl | rfl, ?_⟩ -- v_29.snd.snd.snd.snd.snd.snd.snd.fst = v_29.snd.snd.snd.snd.snd.snd.snd.fst
                    refine ⟨by first | with_reducible rfl | rfl, ?_⟩ -- v_29.snd.snd.snd.snd.snd.snd.snd.snd.fst = v_29.snd.snd.snd.snd.snd.snd.snd.snd.fst
                    refine ⟨by first | with_reducible rfl | rfl, ?_⟩ -- v_29.snd.snd.snd.snd.snd.snd.snd.snd.snd = v_29.snd.snd.snd.snd.snd.snd.snd.snd.snd
                    refine ⟨?_, ?_⟩
                    · -- left
                      refine ⟨by first | omega | (dsimp only; omega), ?_⟩ -- (0 : Int) ≤ n59 ∧ n59 ≤ (↑(ticks.getD v_29.snd.snd.snd.snd.fst.toNat (dflt (11 : Nat))).length : Int)
                      refine ⟨?_, ?_⟩
                      · -- left
                        refine ⟨by show (0 : Int) ≤ v_29.snd.snd.snd.snd.fst; omega, ?_⟩ -- (0 : Int) ≤ v_29.snd.snd.snd.snd.fst
                        refine ⟨by show v_29.snd.snd.snd.snd.fst < (↑ticks.length : Int); omega, ?_⟩ -- v_29.snd.snd.snd.snd.fst < (↑ticks.length : Int)
                        exact by show v_29.snd.snd.snd.snd.fst = (↑v_7.fst.toNat : Int); omega -- v_29.snd.snd.snd.snd.fst = (↑v_7.fst.toNat : Int)
                      have h23 : RIn (ticks.getD v_29.snd.snd.snd.snd.fst.toNat (dflt (11 : Nat))) n59 n56 true n53 v_29.snd.snd.snd.snd.snd.fst v_29.snd.snd.snd.snd.snd.snd.fst := by
                        exact rin_new h16.2.2.1 (by omega) (by omega) (fun e => by have := c18 e; omega) (by omega) (by omega) q53
                      refine ⟨h23, ?_⟩
                      have h24 : ROut (ticks.getD v_29.snd.snd.snd.snd.fst.toNat (dflt (11 : Nat))) v_29.snd.snd.snd.snd.snd.snd.snd.fst v_29.snd.snd.snd.snd.snd.snd.snd.snd.fst v_29.snd.snd.snd.snd.snd.snd.snd.snd.snd v_29.snd.snd.snd.snd.snd.fst v_29.snd.snd.snd.snd.snd.snd.fst := by
                        exact h16.2.2.2.1
                      refine ⟨h24, ?_⟩
                      refine ⟨by exact ⟨by assumption, by assumption⟩, ?_⟩ -- (0 : Int) ≤ n53 ∧ n53 ≤ (4294967295 : Int)
                      refine ⟨by first | omega | (dsimp only; omega), ?_⟩ -- (0 : Int) ≤ v_29.snd.snd.snd.snd.snd.snd.snd.snd.fst ∧ v_29.snd.snd.snd.snd.snd.snd.snd.snd.fst ≤ (4294967295 : Int)
                      refine ⟨by first | omega | (dsimp only; omega), ?_⟩ -- (-9223372036854775808 : Int) ≤ v_29.snd.snd.snd.snd.snd.snd.snd.snd.snd ∧ v_29.snd.snd.snd.snd.snd.snd.snd.snd.snd ≤ (9223372036854775807 : Int)
                      refine ⟨by show (ticks.getD v_29.snd.snd.snd.snd.fst.toNat (dflt (11 : Nat))).length ≤ (30 : Nat); omega, ?_⟩ -- (ticks.getD v_29.snd.snd.snd.snd.fst.toNat (dflt (11 : Nat))).length ≤ (30 : Nat)
                      refine ⟨by show (0 : Int) ≤ n56; omega, ?_⟩ -- (0 : Int) ≤ n56
                      exact by show n56 ≤ n59; omega -- n56 ≤ n59
                    exact by show ((↑(ticks.getD v_29.snd.snd.snd.snd.fst.toNat (dflt (11 : Nat))).length : Int) - n59).toNat < ((↑(ticks.getD v_29.snd.snd.snd.snd.fst.toNat (dflt (11 : Nat))).length : Int) - v_29.fst).toNat; omega -- ((↑(ticks.getD v_29.snd.snd.snd.snd.fst.toNat (dflt (11 : Nat))).length : Int) - n59).toNat < ((↑(ticks.getD v_29.snd.snd.snd.snd.fst.toNat (dflt (11 : Nat))).length : Int) - v_29.fst).toNat
              · -- no
                intro n62
                intro q62 -- n62 = (↑(tk (v_29.snd.snd.snd.snd.snd.fst, v_29.snd.snd.snd.snd.snd.snd.fst) (ticks.getD v_29.snd.snd.snd.snd.fst.toNat (dflt (11 : Nat)))).length : Int)
                intro ⟨l62, u62⟩ -- (-9223372036854775808 : Int) ≤ n62 ∧ n62 ≤ (9223372036854775807 : Int)
                intro n65
                intro q65 -- n65 = v_29.snd.snd.snd.snd.snd.snd.snd.snd.fst
                intro n67
                intro q67 -- n67 = v_29.snd.snd.snd.snd.snd.snd.snd.snd.snd
                intro n69
                intro q69 -- n69 = (↑(tk (v_29.snd.snd.snd.snd.snd.fst, v_29.snd.snd.snd.snd.snd.snd.fst) (ticks.getD v_29.snd.snd.snd.snd.fst.toNat (dflt (11 : Nat)))).length : Int)
                refine br_intro (fun c25 => ?_) (fun c25 => ?_) -- bif bif bif v_29.snd.fst != n62 then true else !v_29.snd.snd.snd.snd.snd.snd.snd.fst == v_29.snd.snd.fst then true else bif v_29.snd.snd.fst then n65 != v_29.snd.snd.snd.fst else false then true else !(n67 == (0 : Int)) == decide (n69 > (0 : Int))
                · -- yes
                  simp at c25 -- ((¬v_29.snd.fst = n62 ∨ ¬v_29.snd.snd.snd.snd.snd.snd.snd.fst = v_29.snd.snd.fst) ∨ v_29.snd.snd.fst = true ∧ ¬n65 = v_29.snd.snd.snd.fst) ∨ ¬(n67 == (0 : Int)) = decide ((0 : Int) < n69)
                  -- k (AV.bool false) [] []
                  exfalso
                  have B := rin_end h16.2.2.1 (by omega)
                  have P := Prod.mk.inj (B.2.trans h16.2.2.2.1.c1.symm)
                  rcases c25 with ((c | c) | c) | c
                  · omega
                  · exact c P.1.symm
                  · exact c.2 (by rw [q65]; exact P.2.symm)
                  · exact c (by rw [Bool.eq_iff_iff]; simp; have := h16.2.2.2.1.c2; omega)
                · -- no
                  simp at c25 -- ((v_29.snd.fst = n62 ∧ v_29.snd.snd.snd.snd.snd.snd.snd.fst = v_29.snd.snd.fst) ∧ (v_29.snd.snd.fst = true → n65 = v_29.snd.snd.snd.fst)) ∧ (n67 == (0 : Int)) = decide ((0 : Int) < n69)
                  intro n71
                  intro q71 -- n71 = IntKind.i64.wrap (v_29.snd.snd.snd.snd.fst + (1 : Int))
                  rw [IntKind.wrap_i64] at q71
                  intro ⟨l71, u71⟩ -- (-9223372036854775808 : Int) ≤ n71 ∧ n71 ≤ (9223372036854775807 : Int)
                  refine ⟨(n71, v_29.snd.snd.fst, v_29.snd.snd.snd.fst, v_29.snd.snd.snd.snd.snd.snd.snd.snd.snd), ?_⟩
                  refine ⟨by first | with_reducible rfl | rfl, ?_⟩ -- ticks = ticks
                  refine ⟨by first | with_reducible rfl | rfl, ?_⟩ -- true = true
                  refine ⟨by first | with_reducible rfl | rfl, ?_⟩ -- v_29.snd.snd.snd.fst = v_29.snd.snd.snd.fst
                  refine ⟨by first | with_reducible rfl | rfl, ?_⟩ -- v_29.snd.snd.fst = v_29.snd.snd.fst
                  refine ⟨by first | with_reducible rfl | rfl, ?_⟩ -- n71 = n71
                  have h26 : v_29.snd.snd.snd.snd.snd.snd.snd.fst = v_29.snd.snd.fst := by
                    exact c25.1.1.2
                  refine ⟨h26, ?_⟩
                  have h27 : v_29.snd.snd.snd.snd.snd.snd.snd.snd.fst = v_29.snd.snd.snd.fst := by
                    have B := rin_end h16.2.2.1 (by omega)
                    have P := Prod.mk.inj (B.2.trans h16.2.2.2.1.c1.symm)
                    exact P.2.symm
                  refine ⟨h27, ?_⟩
                  refine ⟨by first | with_reducible rfl | rfl, ?_⟩ -- v_29.snd.snd.snd.snd.snd.snd.snd.snd.snd = v_29.snd.snd.snd.snd.snd.snd.snd.snd.snd
                  refine ⟨?_, ?_⟩
                  · -- left
                    refine ⟨by first | omega | (dsimp only; omega), ?_⟩ -- (0 : Int) ≤ n71 ∧ n71 ≤ (↑ticks.length : Int)
                    refine ⟨by first | omega | (dsimp only; omega), ?_⟩ -- (0 : Int) ≤ v_29.snd.snd.snd.fst ∧ v_29.snd.snd.snd.fst ≤ (4294967295 : Int)
                    refine ⟨by first | omega | (dsimp only; omega), ?_⟩ -- (-9223372036854775808 : Int) ≤ v_29.snd.snd.snd.snd.snd.snd.snd.snd.snd ∧ v_29.snd.snd.snd.snd.snd.snd.snd.snd.snd ≤ (9223372036854775807 : Int)
                    exact by show ticks.length ≤ (1048576 : Nat); assumption -- ticks.length ≤ (1048576 : Nat)
                  exact by show ((↑ticks.length : Int) - n71).toNat < ((↑ticks.length : Int) - v_7.fst).toNat; omega -- ((↑ticks.length : Int) - n71).toNat < ((↑ticks.length : Int) - v_7.fst).toNat
          refine ⟨by first | omega | (dsimp only; omega), ?_⟩ -- (0 : Int) ≤ v_7.snd.snd.fst ∧ v_7.snd.snd.fst ≤ (4294967295 : Int)
          refine ⟨by first | omega | (dsimp only; omega), ?_⟩ -- (-9223372036854775808 : Int) ≤ v_7.snd.snd.snd ∧ v_7.snd.snd.snd ≤ (9223372036854775807 : Int)
          intro e_74
          intro b_75
          intro l_76
          intro a_77
          intro ys_78
          intro h28 -- e_74 = lE v_7.snd.fst v_7.snd.snd.fst v_7.snd.snd.snd (ticks.getD v_7.fst.toNat (dflt (11 : Nat)))
          intro h29 -- e_74 ≠ (0 : Int) → ys_78 = []
          intro h30 -- e_74 = (0 : Int) → (b_75, l_76) = stk (v_7.snd.fst, v_7.snd.snd.fst) (ticks.getD v_7.fst.toNat (dflt (11 : Nat))) ∧ ys_78 = tk (v_7.snd.fst, v_7.snd.snd.fst) (ticks.getD v_7.fst.toNat (dflt (11 : Nat))) ∧ a_77 = ageN v_7.snd.snd.snd ys_78.length
          intro ⟨a31, b31⟩ -- (0 : Int) ≤ l_76 ∧ l_76 ≤ (4294967295 : Int)
          intro ⟨a32, b32⟩ -- (-9223372036854775808 : Int) ≤ a_77 ∧ a_77 ≤ (9223372036854775807 : Int)
          refine br_intro (fun c33 => ?_) (fun c33 => ?_) -- e_74 != (0 : Int)
          · -- yes
            simp at c33 -- ¬e_74 = (0 : Int)
            intro n84
            intro q84 -- n84 = (↑ys_78.length : Int)
            -- k (AV.bool (bif true then n84 == (0 : Int) else false)) [] []
            rw [h29 c33] at q84
            exact k_true hk (by rw [q84]; rfl)
          · -- no
            simp at c33 -- e_74 = (0 : Int)
            refine ⟨?_, ?_⟩
            · -- left
              refine ⟨((0 : Int), (0 : Int), v_7.snd.fst, v_7.snd.snd.fst, v_7.fst, v_7.snd.fst, v_7.snd.snd.fst, b_75, l_76, a_77), ?_⟩
              refine ⟨by first | with_reducible rfl | rfl, ?_⟩ -- ticks = ticks
              refine ⟨by first | with_reducible rfl | rfl, ?_⟩ -- true = true
              refine ⟨by first | with_reducible rfl | rfl, ?_⟩ -- v_7.snd.snd.fst = v_7.snd.snd.fst
              refine ⟨by first | with_reducible rfl | rfl, ?_⟩ -- v_7.snd.fst = v_7.snd.fst
              refine ⟨by first | with_reducible rfl | rfl, ?_⟩ -- v_7.fst = v_7.fst
              have h34 : ys_78 = tk (v_7.snd.fst, v_7.snd.snd.fst) (ticks.getD v_7.fst.toNat (dflt (11 : Nat))) := by
                exact (h30 c33).2.1
              refine ⟨h34, ?_⟩
              refine ⟨by first | with_reducible rfl | rfl, ?_⟩ -- (0 : Int) = (0 : Int)
              refine ⟨by first | with_reducible rfl | rfl, ?_⟩ -- (0 : Int) = (0 : Int)
              refine ⟨by first | with_reducible rfl | rfl, ?_⟩ -- v_7.snd.fst = v_7.snd.fst
              refine ⟨by first | with_reducible rfl | rfl, ?_⟩ -- v_7.snd.snd.fst = v_7.snd.snd.fst
              refine ⟨by first | with_reducible rfl | rfl, ?_⟩ -- b_75 = b_75
              refine ⟨by first | with_reducible rfl | rfl, ?_⟩ -- l_76 = l_76
              refine ⟨by first | with_reducible rfl | rfl, ?_⟩ -- a_77 = a_77
              refine ⟨by first | omega | (dsimp only; omega), ?_⟩ -- (0 : Int) ≤ (0 : Int) ∧ (0 : Int) ≤ (↑(ticks.getD v_7.fst.toNat (dflt (11 : Nat))).length : Int)
              refine ⟨?_, ?_⟩
              · -- left
                refine ⟨by show (0 : Int) ≤ v_7.fst; omega, ?_⟩ -- (0 : Int) ≤ v_7.fst
                refine ⟨by show v_7.fst < (↑ticks.length : Int); omega, ?_⟩ -- v_7.fst < (↑ticks.length : Int)
                exact by show v_7.fst = (↑v_7.fst.toNat : Int); omega -- v_7.fst = (↑v_7.fst.toNat : Int)
              have h35 : RIn (ticks.getD v_7.fst.toNat (dflt (11 : Nat))) (0 : Int) (0 : Int) v_7.snd.fst v_7.snd.snd.fst v_7.snd.fst v_7.snd.snd.fst := by
                exact ⟨rfl, rfl⟩
              refine ⟨h35, ?_⟩
              have h36 : ROut (ticks.getD v_7.fst.toNat (dflt (11 : Nat))) b_75 l_76 a_77 v_7.snd.fst v_7.snd.snd.fst := by
                exact ⟨(h30 c33).1, by have g := lE_nb (h28.symm.trans c33); rw [(h30 c33).2.2, age0 g.1, ← (h30 c33).2.1]⟩
              refine ⟨h36, ?_⟩
              refine ⟨by first | omega | (dsimp only; omega), ?_⟩ -- (0 : Int) ≤ v_7.snd.snd.fst ∧ v_7.snd.snd.fst ≤ (4294967295 : Int)
              refine ⟨by exact ⟨by assumption, by assumption⟩, ?_⟩ -- (0 : Int) ≤ l_76 ∧ l_76 ≤ (4294967295 : Int)
              refine ⟨by exact ⟨by assumption, by assumption⟩, ?_⟩ -- (-9223372036854775808 : Int) ≤ a_77 ∧ a_77 ≤ (9223372036854775807 : Int)
              refine ⟨by show (ticks.getD v_7.fst.toNat (dflt (11 : Nat))).length ≤ (30 : Nat); omega, ?_⟩ -- (ticks.getD v_7.fst.toNat (dflt (11 : Nat))).length ≤ (30 : Nat)
              refine ⟨by show (0 : Int) ≤ (0 : Int); omega, ?_⟩ -- (0 : Int) ≤ (0 : Int)
              exact by show (0 : Int) ≤ (0 : Int); omega -- (0 : Int) ≤ (0 : Int)
            intro v_86
            intro h37 -- ((0 : Int) ≤ v_86.fst ∧ v_86.fst ≤ (↑(ticks.getD v_86.snd.snd.snd.snd.fst.toNat (dflt (11 : Nat))).length : Int)) ∧ ((0 : Int) ≤ v_86.snd.snd.snd.snd.fst ∧ v_86.snd.snd.snd.snd.fst < (↑ticks.length : Int) ∧ v_86.snd.snd.snd.snd.fst = (↑v_7.fst.toNat : Int)) ∧ RIn (ticks.getD v_86.snd.snd.snd.snd.fst.toNat (dflt (11 : Nat))) v_86.fst v_86.snd.fst v_86.snd.snd.fst v_86.snd.snd.snd.fst v_86.snd.snd.snd.snd.snd.fst v_86.snd.snd.snd.snd.snd.snd.fst ∧ ROut (ticks.getD v_86.snd.snd.snd.snd.fst.toNat (dflt (11 : Nat))) v_86.snd.snd.snd.snd.snd.snd.snd.fst v_86.snd.snd.snd.snd.snd.snd.snd.snd.fst v_86.snd.snd.snd.snd.snd.snd.snd.snd.snd v_86.snd.snd.snd.snd.snd.fst v_86.snd.snd.snd.snd.snd.snd.fst ∧ ((0 : Int) ≤ v_86.snd.snd.snd.fst ∧ v_86.snd.snd.snd.fst ≤ (4294967295 : Int)) ∧ ((0 : Int) ≤ v_86.snd.snd.snd.snd.snd.snd.snd.snd.fst ∧ v_86.snd.snd.snd.snd.snd.snd.snd.snd.fst ≤ (4294967295 : Int)) ∧ ((-9223372036854775808 : Int) ≤ v_86.snd.snd.snd.snd.snd.snd.snd.snd.snd ∧ v_86.snd.snd.snd.snd.snd.snd.snd.snd.snd ≤ (9223372036854775807 : Int)) ∧ (ticks.getD v_86.snd.snd.snd.snd.fst.toNat (dflt (11 : Nat))).length ≤ (30 : Nat) ∧ (0 : Int) ≤ v_86.snd.fst ∧ v_86.snd.fst ≤ v_86.fst
            refine ⟨by first | omega | (dsimp only; omega), ?_⟩ -- (0 : Int) ≤ v_86.snd.snd.snd.snd.fst
            refine ⟨by first | omega | (dsimp only; omega), ?_⟩ -- v_86.snd.snd.snd.snd.fst < (↑ticks.length : Int)
            intro n88
            intro q88 -- n88 = (↑(ticks.getD v_86.snd.snd.snd.snd.fst.toNat (dflt (11 : Nat))).length : Int)
            intro ⟨l88, u88⟩ -- (-9223372036854775808 : Int) ≤ n88 ∧ n88 ≤ (9223372036854775807 : Int)
            refine brd (fun c38 => ?_) (fun c38 => ?_) -- decide (v_86.fst < n88)
            · -- yes
              refine ⟨by first | omega | (dsimp only; omega), ?_⟩ -- (0 : Int) ≤ v_86.snd.snd.snd.snd.fst
              refine ⟨by first | omega | (dsimp only; omega), ?_⟩ -- v_86.snd.snd.snd.snd.fst < (↑ticks.length : Int)
              refine ⟨by first | omega | (dsimp only; omega), ?_⟩ -- (0 : Int) ≤ v_86.fst
              refine ⟨by first | omega | (dsimp only; omega), ?_⟩ -- v_86.fst < (↑(ticks.getD v_86.snd.snd.snd.snd.fst.toNat (dflt (11 : Nat))).length : Int)
              intro n91
              intro q91 -- n91 = (↑((ticks.getD v_86.snd.snd.snd.snd.fst.toNat (dflt (11 : Nat))).getD v_86.fst.toNat (dflt (8 : Nat))).seq.toNat : Int)
              refine br_intro (fun c39 => ?_) (fun c39 => ?_) -- bif v_86.snd.snd.fst then decide (n91 ≤ v_86.snd.snd.snd.fst) else false
              · -- yes
                simp at c39 -- v_86.snd.snd.fst = true ∧ n91 ≤ v_86.snd.snd.snd.fst
                intro n93
                intro q93 -- n93 = IntKind.i64.wrap (v_86.fst + (1 : Int))
                rw [IntKind.wrap_i64] at q93
                intro ⟨l93, u93⟩ -- (-9223372036854775808 : Int) ≤ n93 ∧ n93 ≤ (9223372036854775807 : Int)
                refine ⟨(n93, v_86.snd.fst, v_86.snd.snd.fst, v_86.snd.snd.snd.fst, v_86.snd.snd.snd.snd.fst, v_86.snd.snd.snd.snd.snd.fst, v_86.snd.snd.snd.snd.snd.snd.fst, v_86.snd.snd.snd.snd.snd.snd.snd.fst, v_86.snd.snd.snd.snd.snd.snd.snd.snd.fst, v_86.snd.snd.snd.snd.snd.snd.snd.snd.snd), ?_⟩
                refine ⟨by first | with_reducible rfl | rfl, ?_⟩ -- ticks = ticks
                refine ⟨by first | with_reducible rfl | rfl, ?_⟩ -- true = true
                refine ⟨by first | with_reducible rfl | rfl, ?_⟩ -- v_86.snd.snd.snd.fst = v_86.snd.snd.snd.fst
                refine ⟨by first | with_reducible rfl | rfl, ?_⟩ -- v_86.snd.snd.fst = v_86.snd.snd.fst
                refine ⟨by first | with_reducible rfl | rfl, ?_⟩ -- v_86.snd.snd.snd.snd.fst = v_86.snd.snd.snd.snd.fst
                refine ⟨by first | with_reducible rfl | rfl, ?_⟩ -- tk (v_86.snd.snd.snd.snd.snd.fst, v_86.snd.snd.snd.snd.snd.snd.fst) (ticks.getD v_86.snd.snd.snd.snd.fst.toNat (dflt (11 : Nat))) = tk (v_86.snd.snd.snd.snd.snd.fst, v_86.snd.snd.snd.snd.snd.snd.fst) (ticks.getD v_86.snd.snd.snd.snd.fst.toNat (dflt (11 : Nat)))
                refine ⟨by first | with_reducible rfl | rfl, ?_⟩ -- v_86.snd.fst = v_86.snd.fst
                refine ⟨by first | with_reducible rfl | rfl, ?_⟩ -- n93 = n93
                refine ⟨by first | with_reducible rfl | rfl, ?_⟩ -- v_86.snd.snd.snd.snd.snd.fst = v_86.snd.snd.snd.snd.snd.fst
                refine ⟨by first | with_reducible rfl | rfl, ?_⟩ -- v_86.snd.snd.snd.snd.snd.snd.fst = v_86.snd.snd.snd.snd.snd.snd.fst
                refine ⟨by first | with_reducible rfl | rfl, ?_⟩ -- v_86.snd.snd.snd.snd.snd.snd.snd.fst = v_86.snd.snd.snd.snd.snd.snd.snd.fst
                refine ⟨by first | with_reducible rfl | rfl, ?_⟩ -- v_86.snd.snd.snd.snd.snd.snd.snd.snd.fst = v_86.snd.snd.snd.snd.snd.snd.snd.snd.fst
                refine ⟨by first | with_reducible rfl | rfl, ?_⟩ -- v_86.snd.snd.snd.snd.snd.snd.snd.snd.snd = v_86.snd.snd.snd.snd.snd.snd.snd.snd.snd
                refine ⟨?_, ?_⟩
                · -- left
                  refine ⟨by first | omega | (dsimp only; omega), ?_⟩ -- (0 : Int) ≤ n93 ∧ n93 ≤ (↑(ticks.getD v_86.snd.snd.snd.snd.fst.toNat (dflt (11 : Nat))).length : Int)
                  refine ⟨?_, ?_⟩
                  · -- left
                    refine ⟨by show (0 : Int) ≤ v_86.snd.snd.snd.snd.fst; omega, ?_⟩ -- (0 : Int) ≤ v_86.snd.snd.snd.snd.fst
                    refine ⟨by show v_86.snd.snd.snd.snd.fst < (↑ticks.length : Int); omega, ?_⟩ -- v_86.snd.snd.snd.snd.fst < (↑ticks.length : Int)
                    exact by show v_86.snd.snd.snd.snd.fst = (↑v_7.fst.toNat : Int); omega -- v_86.snd.snd.snd.snd.fst = (↑v_7.fst.toNat : Int)
                  have h40 : RIn (ticks.getD v_86.snd.snd.snd.snd.fst.toNat (dflt (11 : Nat))) n93 v_86.snd.fst v_86.snd.snd.fst v_86.snd.snd.snd.fst v_86.snd.snd.snd.snd.snd.fst v_86.snd.snd.snd.snd.snd.snd.fst := by
                    exact rin_old h37.2.2.1 (by omega) (by omega) c39.1 (by rw [← q91]; exact c39.2) (by omega)
                  refine ⟨h40, ?_⟩
                  have h41 : ROut (ticks.getD v_86.snd.snd.snd.snd.fst.toNat (dflt (11 : Nat))) v_86.snd.snd.snd.snd.snd.snd.snd.fst v_86.snd.snd.snd.snd.snd.snd.snd.snd.fst v_86.snd.snd.snd.snd.snd.snd.snd.snd.snd v_86.snd.snd.snd.snd.snd.fst v_86.snd.snd.snd.snd.snd.snd.fst := by
                    exact h37.2.2.2.1
                  refine ⟨h41, ?_⟩
                  refine ⟨by first | omega | (dsimp only; omega), ?_⟩ -- (0 : Int) ≤ v_86.snd.snd.snd.fst ∧ v_86.snd.snd.snd.fst ≤ (4294967295 : Int)
                  refine ⟨by first | omega | (dsimp only; omega), ?_⟩ -- (0 : Int) ≤ v_86.snd.snd.snd.snd.snd.snd.snd.snd.fst ∧ v_86.snd.snd.snd.snd.snd.snd.snd.snd.fst ≤ (4294967295 : Int)
                  refine ⟨by first | omega | (dsimp only; omega), ?_⟩ -- (-9223372036854775808 : Int) ≤ v_86.snd.snd.snd.snd.snd.snd.snd.snd.snd ∧ v_86.snd.snd.snd.snd.snd.snd.snd.snd.snd ≤ (9223372036854775807 : Int)
                  refine ⟨by show (ticks.getD v_86.snd.snd.snd.snd.fst.toNat (dflt (11 : Nat))).length ≤ (30 : Nat); omega, ?_⟩ -- (ticks.getD v_86.snd.snd.snd.snd.fst.toNat (dflt (11 : Nat))).length ≤ (30 : Nat)
                  refine ⟨by show (0 : Int) ≤ v_86.snd.fst; omega, ?_⟩ -- (0 : Int) ≤ v_86.snd.fst
                  exact by show v_86.snd.fst ≤ n93; omega -- v_86.snd.fst ≤ n93
                exact by show ((↑(ticks.getD v_86.snd.snd.snd.snd.fst.toNat (dflt (11 : Nat))).length : Int) - n93).toNat < ((↑(ticks.getD v_86.snd.snd.snd.snd.fst.toNat (dflt (11 : Nat))).length : Int) - v_86.fst).toNat; omega -- ((↑(ticks.getD v_86.snd.snd.snd.snd.fst.toNat (dflt (11 : Nat))).length : Int) - n93).toNat < ((↑(ticks.getD v_86.snd.snd.snd.snd.fst.toNat (dflt (11 : Nat))).length : Int) - v_86.fst).toNat
              · -- no
                simp at c39 -- v_86.snd.snd.fst = true → v_86.snd.snd.snd.fst < n91
                intro n96
                intro q96 -- n96 = (↑(tk (v_86.snd.snd.snd.snd.snd.fst, v_86.snd.snd.snd.snd.snd.snd.fst) (ticks.getD v_86.snd.snd.snd.snd.fst.toNat (dflt (11 : Nat)))).length : Int)
                intro ⟨l96, u96⟩ -- (-9223372036854775808 : Int) ≤ n96 ∧ n96 ≤ (9223372036854775807 : Int)
                refine ⟨?_, ?_⟩
                · -- left
                  intro h42 -- decide (v_86.snd.fst ≥ n96) = false
                  simp at h42 -- v_86.snd.fst < n96
                  refine ⟨by first | omega | (dsimp only; omega), ?_⟩ -- (0 : Int) ≤ v_86.snd.fst
                  exact by omega -- v_86.snd.fst < (↑(tk (v_86.snd.snd.snd.snd.snd.fst, v_86.snd.snd.snd.snd.snd.snd.fst) (ticks.getD v_86.snd.snd.snd.snd.fst.toNat (dflt (11 : Nat)))).length : Int)
                intro n100
                intro q100 -- n100 = (↑((tk (v_86.snd.snd.snd.snd.snd.fst, v_86.snd.snd.snd.snd.snd.snd.fst) (ticks.getD v_86.snd.snd.snd.snd.fst.toNat (dflt (11 : Nat)))).getD v_86.snd.fst.toNat (dflt (8 : Nat))).seq.toNat : Int)
                intro n102
                intro q102 -- n102 = (↑((ticks.getD v_86.snd.snd.snd.snd.fst.toNat (dflt (11 : Nat))).getD v_86.fst.toNat (dflt (8 : Nat))).seq.toNat : Int)
                refine ⟨?_, ?_⟩
                · -- left
                  intro q102 -- (bif decide (v_86.snd.fst ≥ n96) then true else n100 != n102) = false
                  simp at q102 -- v_86.snd.fst < n96 ∧ n100 = n102
                  refine ⟨by first | omega | (dsimp only; omega), ?_⟩ -- (0 : Int) ≤ v_86.snd.fst
                  exact by omega -- v_86.snd.fst < (↑(tk (v_86.snd.snd.snd.snd.snd.fst, v_86.snd.snd.snd.snd.snd.snd.fst) (ticks.getD v_86.snd.snd.snd.snd.fst.toNat (dflt (11 : Nat)))).length : Int)
                intro n105
                intro q105 -- n105 = (↑((tk (v_86.snd.snd.snd.snd.snd.fst, v_86.snd.snd.snd.snd.snd.snd.fst) (ticks.getD v_86.snd.snd.snd.snd.fst.toNat (dflt (11 : Nat)))).getD v_86.snd.fst.toNat (dflt (8 : Nat))).kind.toNat : Int)
                intro n107
                intro q107 -- n107 = (↑((ticks.getD v_86.snd.snd.snd.snd.fst.toNat (dflt (11 : Nat))).getD v_86.fst.toNat (dflt (8 : Nat))).kind.toNat : Int)
                refine ⟨?_, ?_⟩
                · -- left
                  intro q107 -- (bif bif decide (v_86.snd.fst ≥ n96) then true else n100 != n102 then true else n105 != n107) = false
                  simp at q107 -- (v_86.snd.fst < n96 ∧ n100 = n102) ∧ n105 = n107
                  refine ⟨by first | omega | (dsimp only; omega), ?_⟩ -- (0 : Int) ≤ v_86.snd.fst
                  exact by omega -- v_86.snd.fst < (↑(tk (v_86.snd.snd.snd.snd.snd.fst, v_86.snd.snd.snd.snd.snd.snd.fst) (ticks.getD v_86.snd.snd.snd.snd.fst.toNat (dflt (11 : Nat)))).length : Int)
                refine br_intro (fun c43 => ?_) (fun c43 => ?_) -- bif bif bif decide (v_86.snd.fst ≥ n96) then true else n100 != n102 then true else n105 != n107 then true else !{ data := ((tk (v_86.snd.snd.snd.snd.snd.fst, v_86.snd.snd.snd.snd.snd.snd.fst) (ticks.getD v_86.snd.snd.snd.snd.fst.toNat (dflt (11 : Nat)))).getD v_86.snd.fst.toNat (dflt (8 : Nat))).body.toArray : ByteArray }.data.toList == { data := ((ticks.getD v_86.snd.snd.snd.snd.fst.toNat (dflt (11 : Nat))).getD v_86.fst.toNat (dflt (8 : Nat))).body.toArray : ByteArray }.data.toList
                · -- yes
                  simp at c43 -- ((n96 ≤ v_86.snd.fst ∨ ¬n100 = n102) ∨ ¬n105 = n107) ∨ ¬((tk (v_86.snd.snd.snd.snd.snd.fst, v_86.snd.snd.snd.snd.snd.snd.fst) (ticks[v_86.snd.snd.snd.snd.fst.toNat]?.getD (dflt (11 : Nat))))[v_86.snd.fst.toNat]?.getD (dflt (8 : Nat))).body = ((ticks[v_86.snd.snd.snd.snd.fst.toNat]?.getD (dflt (11 : Nat)))[v_86.fst.toNat]?.getD (dflt (8 : Nat))).body
                  -- k (AV.bool false) [] []
                  exfalso
                  have A := rin_at h37.2.2.1 (by omega) (by omega) (fun e => by have := c39 e; omega)
                  have A' := A.2
                  simp only [List.getD_eq_getElem?_getD] at A'
                  rcases c43 with ((c | c) | c) | c
                  · omega
                  · exact c (by rw [q100, q102, A.2])
                  · exact c (by rw [q105, q107, A.2])
                  · exact c (by rw [A'])
                · -- no
                  simp at c43 -- ((v_86.snd.fst < n96 ∧ n100 = n102) ∧ n105 = n107) ∧ ((tk (v_86.snd.snd.snd.snd.snd.fst, v_86.snd.snd.snd.snd.snd.snd.fst) (ticks[v_86.snd.snd.snd.snd.fst.toNat]?.getD (dflt (11 : Nat))))[v_86.snd.fst.toNat]?.getD (dflt (8 : Nat))).body = ((ticks[v_86.snd.snd.snd.snd.fst.toNat]?.getD (dflt (11 : Nat)))[v_86.fst.toNat]?.getD (dflt (8 : Nat))).body
                  intro n110
                  intro q110 -- n110 = (↑((ticks.getD v_86.snd.snd.snd.snd.fst.toNat (dflt (11 : Nat))).getD v_86.fst.toNat (dflt (8 : Nat))).seq.toNat : Int)
                  intro ⟨l110, u110⟩ -- (0 : Int) ≤ n110 ∧ n110 ≤ (4294967295 : Int)
                  intro n113
                  intro q113 -- n113 = IntKind.i64.wrap (v_86.snd.fst + (1 : Int))
                  rw [IntKind.wrap_i64] at q113
                  intro ⟨l113, u113⟩ -- (-9223372036854775808 : Int) ≤ n113 ∧ n113 ≤ (9223372036854775807 : Int)
                  intro n116
                  intro q116 -- n116 = IntKind.i64.wrap (v_86.fst + (1 : Int))
                  rw [IntKind.wrap_i64] at q116
                  intro ⟨l116, u116⟩ -- (-9223372036854775808 : Int) ≤ n116 ∧ n116 ≤ (9223372036854775807 : Int)
                  refine ⟨(n116, n113, true, n110, v_86.snd.snd.snd.snd.fst, v_86.snd.snd.snd.snd.snd.fst, v_86.snd.snd.snd.snd.snd.snd.fst, v_86.snd.snd.snd.snd.snd.snd.snd.fst, v_86.snd.snd.snd.snd.snd.snd.snd.snd.fst, v_86.snd.snd.snd.snd.snd.snd.snd.snd.snd), ?_⟩
                  refine ⟨by first | with_reducible rfl | rfl, ?_⟩ -- ticks = ticks
                  refine ⟨by first | with_reducible rfl | rfl, ?_⟩ -- true = true
                  refine ⟨by first | with_reducible rfl | rfl, ?_⟩ -- n110 = n110
                  refine ⟨by first | with_reducible rfl | rfl, ?_⟩ -- true = true
                  refine ⟨by first | with_reducible rfl | rfl, ?_⟩ -- v_86.snd.snd.snd.snd.fst = v_86.snd.snd.snd.snd.fst
                  refine ⟨by first | with_reducible rfl | rfl, ?_⟩ -- tk (v_86.snd.snd.snd.snd.snd.fst, v_86.snd.snd.snd.snd.snd.snd.fst) (ticks.getD v_86.snd.snd.snd.snd.fst.toNat (dflt (11 : Nat))) = tk (v_86.snd.snd.snd.snd.snd.fst, v_86.snd.snd.snd.snd.snd.snd.fst) (ticks.getD v_86.snd.snd.snd.snd.fst.toNat (dflt (11 : Nat)))
                  refine ⟨by first | with_reducible rfl | rfl, ?_⟩ -- n113 = n113
                  refine ⟨by first | with_reducible rfl | rfl, ?_⟩ -- n116 = n116
                  refine ⟨by first | with_reducible rfl | rfl, ?_⟩ -- v_86.snd.snd.snd.snd.snd.fst = v_86.snd.snd.snd.snd.snd.fst
                  refine ⟨by first | with_reducible rfl | rfl, ?_⟩ -- v_86.snd.snd.snd.snd.snd.snd.fst = v_86.snd.snd.snd.snd.snd.snd.fst
                  refine ⟨by first | with_reducible rfl | rfl, ?_⟩ -- v_86.snd.snd.snd.snd.snd.snd.snd.fst = v_86.snd.snd.snd.snd.snd.snd.snd.fst
                  refine ⟨by first | with_reducible rfl | rfl, ?_⟩ -- v_86.snd.snd.snd.snd.snd.snd.snd.snd.fst = v_86.snd.snd.snd.snd.snd.snd.snd.snd.fst
                  refine ⟨by first | with_reducible rfl | rfl, ?_⟩ -- v_86.snd.snd.snd.snd.snd.snd.snd.snd.snd = v_86.snd.snd.snd.snd.snd.snd.snd.snd.snd
                  refine ⟨?_, ?_⟩
                  · -- left
                    refine ⟨by first | omega | (dsimp only; omega), ?_⟩ -- (0 : Int) ≤ n116 ∧ n116 ≤ (↑(ticks.getD v_86.snd.snd.snd.snd.fst.toNat (dflt (11 : Nat))).length : Int)
                    refine ⟨?_, ?_⟩
                    · -- left
                      refine ⟨by show (0 : Int) ≤ v_86.snd.snd.snd.snd.fst; omega, ?_⟩ -- (0 : Int) ≤ v_86.snd.snd.snd.snd.fst
                      refine ⟨by show v_86.snd.snd.snd.snd.fst < (↑ticks.length : Int); omega, ?_⟩ -- v_86.snd.snd.snd.snd.fst < (↑ticks.length : Int)
                      exact by show v_86.snd.snd.snd.snd.fst = (↑v_7.fst.toNat : Int); omega -- v_86.snd.snd.snd.snd.fst = (↑v_7.fst.toNat : Int)
                    have h44 : RIn (ticks.getD v_86.snd.snd.snd.snd.fst.toNat (dflt (11 : Nat))) n116 n113 true n110 v_86.snd.snd.snd.snd.snd.fst v_86.snd.snd.snd.snd.snd.snd.fst := by
                      exact rin_new h37.2.2.1 (by omega) (by omega) (fun e => by have := c39 e; omega) (by omega) (by omega) q110
                    refine ⟨h44, ?_⟩
                    have h45 : ROut (ticks.getD v_86.snd.snd.snd.snd.fst.toNat (dflt (11 : Nat))) v_86.snd.snd.snd.snd.snd.snd.snd.fst v_86.snd.snd.snd.snd.snd.snd.snd.snd.fst v_86.snd.snd.snd.snd.snd.snd.snd.snd.snd v_86.snd.snd.snd.snd.snd.fst v_86.snd.snd.snd.snd.snd.snd.fst := by
                      exact h37.2.2.2.1
                    refine ⟨h45, ?_⟩
                    refine ⟨by exact ⟨by assumption, by assumption⟩, ?_⟩ -- (0 : Int) ≤ n110 ∧ n110 ≤ (4294967295 : Int)
                    refine ⟨by first | omega | (dsimp only; omega), ?_⟩ -- (0 : Int) ≤ v_86.snd.snd.snd.snd.snd.snd.snd.snd.fst ∧ v_86.snd.snd.snd.snd.snd.snd.snd.snd.fst ≤ (4294967295 : Int)
                    refine ⟨by first | omega | (dsimp only; omega), ?_⟩ -- (-9223372036854775808 : Int) ≤ v_86.snd.snd.snd.snd.snd.snd.snd.snd.snd ∧ v_86.snd.snd.snd.snd.snd.snd.snd.snd.snd ≤ (9223372036854775807 : Int)
                    refine ⟨by show (ticks.getD v_86.snd.snd.snd.snd.fst.toNat (dflt (11 : Nat))).length ≤ (30 : Nat); omega, ?_⟩ -- (ticks.getD v_86.snd.snd.snd.snd.fst.toNat (dflt (11 : Nat))).length ≤ (30 : Nat)
                    refine ⟨by show (0 : Int) ≤ n113; omega, ?_⟩ -- (0 : Int) ≤ n113
                    exact by show n113 ≤ n116; omega -- n113 ≤ n116
                  exact by show ((↑(ticks.getD v_86.snd.snd.snd.snd.fst.toNat (dflt (11 : Nat))).length : Int) - n116).toNat < ((↑(ticks.getD v_86.snd.snd.snd.snd.fst.toNat (dflt (11 : Nat))).length : Int) - v_86.fst).toNat; omega -- ((↑(ticks.getD v_86.snd.snd.snd.snd.fst.toNat (dflt (11 : Nat))).length : Int) - n116).toNat < ((↑(ticks.getD v_86.snd.snd.snd.snd.fst.toNat (dflt (11 : Nat))).length : Int) - v_86.fst).toNat
            · -- no
              intro n119
              intro q119 -- n119 = (↑(tk (v_86.snd.snd.snd.snd.snd.fst, v_86.snd.snd.snd.snd.snd.snd.fst) (ticks.getD v_86.snd.snd.snd.snd.fst.toNat (dflt (11 : Nat)))).length : Int)
              intro ⟨l119, u119⟩ -- (-9223372036854775808 : Int) ≤ n119 ∧ n119 ≤ (9223372036854775807 : Int)
              intro n122
              intro q122 -- n122 = v_86.snd.snd.snd.snd.snd.snd.snd.snd.fst
              intro n124
              intro q124 -- n124 = v_86.snd.snd.snd.snd.snd.snd.snd.snd.snd
              intro n126
              intro q126 -- n126 = (↑(tk (v_86.snd.snd.snd.snd.snd.fst, v_86.snd.snd.snd.snd.snd.snd.fst) (ticks.getD v_86.snd.snd.snd.snd.fst.toNat (dflt (11 : Nat)))).length : Int)
              refine br_intro (fun c46 => ?_) (fun c46 => ?_) -- bif bif bif v_86.snd.fst != n119 then true else !v_86.snd.snd.snd.snd.snd.snd.snd.fst == v_86.snd.snd.fst then true else bif v_86.snd.snd.fst then n122 != v_86.snd.snd.snd.fst else false then true else !(n124 == (0 : Int)) == decide (n126 > (0 : Int))
              · -- yes
                simp at c46 -- ((¬v_86.snd.fst = n119 ∨ ¬v_86.snd.snd.snd.snd.snd.snd.snd.fst = v_86.snd.snd.fst) ∨ v_86.snd.snd.fst = true ∧ ¬n122 = v_86.snd.snd.snd.fst) ∨ ¬(n124 == (0 : Int)) = decide ((0 : Int) < n126)
                -- k (AV.bool false) [] []
                exfalso
                have B := rin_end h37.2.2.1 (by omega)
                have P := Prod.mk.inj (B.2.trans h37.2.2.2.1.c1.symm)
                rcases c46 with ((c | c) | c) | c
                · omega
                · exact c P.1.symm
                · exact c.2 (by rw [q122]; exact P.2.symm)
                · exact c (by rw [Bool.eq_iff_iff]; simp; have := h37.2.2.2.1.c2; omega)
              · -- no
                simp at c46 -- ((v_86.snd.fst = n119 ∧ v_86.snd.snd.snd.snd.snd.snd.snd.fst = v_86.snd.snd.fst) ∧ (v_86.snd.snd.fst = true → n122 = v_86.snd.snd.snd.fst)) ∧ (n124 == (0 : Int)) = decide ((0 : Int) < n126)
                intro n128
                intro q128 -- n128 = IntKind.i64.wrap (v_86.snd.snd.snd.snd.fst + (1 : Int))
                rw [IntKind.wrap_i64] at q128
                intro ⟨l128, u128⟩ -- (-9223372036854775808 : Int) ≤ n128 ∧ n128 ≤ (9223372036854775807 : Int)
                refine ⟨(n128, v_86.snd.snd.fst, v_86.snd.snd.snd.fst, v_86.snd.snd.snd.snd.snd.snd.snd.snd.snd), ?_⟩
                refine ⟨by first | with_reducible rfl | rfl, ?_⟩ -- ticks = ticks
                refine ⟨by first | with_reducible rfl | rfl, ?_⟩ -- true = true
                refine ⟨by first | with_reducible rfl | rfl, ?_⟩ -- v_86.snd.snd.snd.fst = v_86.snd.snd.snd.fst
                refine ⟨by first | with_reducible rfl | rfl, ?_⟩ -- v_86.snd.snd.fst = v_86.snd.snd.fst
                refine ⟨by first | with_reducible rfl | rfl, ?_⟩ -- n128 = n128
                have h47 : v_86.snd.snd.snd.snd.snd.snd.snd.fst = v_86.snd.snd.fst := by
                  exact c46.1.1.2
                refine ⟨h47, ?_⟩
                have h48 : v_86.snd.snd.snd.snd.snd.snd.snd.snd.fst = v_86.snd.snd.snd.fst := by
                  have B := rin_end h37.2.2.1 (by omega)
                  have P := Prod.mk.inj (B.2.trans h37.2.2.2.1.c1.symm)
                  exact P.2.symm
                refine ⟨h48, ?_⟩
                refine ⟨by first | with_reducible rfl | rfl, ?_⟩ -- v_86.snd.snd.snd.snd.snd.snd.snd.snd.snd = v_86.snd.snd.snd.snd.snd.snd.snd.snd.snd
                refine ⟨?_, ?_⟩
                · -- left
                  refine ⟨by first | omega | (dsimp only; omega), ?_⟩ -- (0 : Int) ≤ n128 ∧ n128 ≤ (↑ticks.length : Int)
                  refine ⟨by first | omega | (dsimp only; omega), ?_⟩ -- (0 : Int) ≤ v_86.snd.snd.snd.fst ∧ v_86.snd.snd.snd.fst ≤ (4294967295 : Int)
                  refine ⟨by first | omega | (dsimp only; omega), ?_⟩ -- (-9223372036854775808 : Int) ≤ v_86.snd.snd.snd.snd.snd.snd.snd.snd.snd ∧ v_86.snd.snd.snd.snd.snd.snd.snd.snd.snd ≤ (9223372036854775807 : Int)
                  exact by show ticks.length ≤ (1048576 : Nat); assumption -- ticks.length ≤ (1048576 : Nat)
                exact by show ((↑ticks.length : Int) - n128).toNat < ((↑ticks.length : Int) - v_7.fst).toNat; omega -- ((↑ticks.length : Int) - n128).toNat < ((↑ticks.length : Int) - v_7.fst).toNat
    · -- no
      exact by exact hk -- k (AV.bool true) [] []

theorem linkRises_ok : Holds Try.prog 3 lawRises := by
  refine fn_sound (env := mkEnv T5) (tab_ok T5_ok) Try.func3 Try.call3 fun args k h => ?_
  match args, h with
  | [.agg [.bool an, .int .u32 la, .int .i64 ag], .sl 11 ticks], h => exact ⟨by kernel_rfl, risesLoops ticks, fun _ _ => none, .cast (by kernel_rfl) (linkRises_vc an la h.1.1 h.1.2 ag h.2.1.1 h.2.1.2 ticks h.2.2.1 k h.2.2.2)⟩
end Go.Proofs.Ytpkfadgennejnaa
namespace Go.Proofs.Ytpkfadgennejnaa
open Go.ChangeShapes Go.WideShapes Go.ChangeAt Go.RowKit Go.Eng
set_option linter.unusedVariables false

theorem ownR : ownKnob Try.prog.godebug = none := by kernel_rfl
theorem laidR : laidOutB Try.prog = true := by kernel_rfl

theorem oneLeR {H : Type} (d : DataW H) : 1 ≤ Rows.uptoBulk d := by
  cases d with
  | lit l => cases l <;> simp [Rows.uptoBulk]
  | _ => simp [Rows.uptoBulk]
theorem sumLeR {H : Type} {α : Type} {Z : DataW H → α → Prop} (f : α → Nat) (hf : ∀ d x, Z d x → f x ≤ Rows.uptoBulk d) : ∀ (el : List (DataW H)) (xs : List α), ZAll Z el xs → (xs.map f).sum ≤ Rows.uptoBulkAll el
  | [], [], _ => by simp [Rows.uptoBulkAll]
  | d :: el, x :: xs, h => by
    have h1 := hf d x h.1
    have h2 := sumLeR f hf el xs h.2
    simp only [List.map_cons, List.sum_cons, Rows.uptoBulkAll]; omega
  | [], _ :: _, h => h.elim
  | _ :: _, [], h => h.elim
theorem sumBulkR {H : Type} {α : Type} {Z : DataW H → α → Prop} (f : α → Nat) (hf : ∀ d x, Z d x → f x ≤ Rows.uptoBulk d) {d : DataW H} {xs : List α} (h : DSz Z d xs) : (xs.map f).sum ≤ Rows.uptoBulk d := by
  rcases h with rfl | ⟨el, sp, rfl, h⟩
  · simp
  · have := sumLeR f hf el xs h
    simp only [Rows.uptoBulk]; omega
theorem onesLenR {α : Type} (xs : List α) : (xs.map fun _ => 1).sum = xs.length := by
  induction xs with
  | nil => rfl
  | cons x r ih => simp only [List.map_cons, List.sum_cons, List.length_cons, ih]; omega
theorem bulkLenR {H : Type} {α : Type} {Z : DataW H → α → Prop} {d : DataW H} {xs : List α} (h : DSz Z d xs) : xs.length ≤ Rows.uptoBulk d := by
  have := sumBulkR (fun _ : α => 1) (fun d _ _ => oneLeR d) h
  rwa [onesLenR] at this
theorem bulkTotR {H : Type} {d : DataW H} {xs : List (List UInt8)} (h : DSz (DSz Z0) d xs) : xs.flatten.length ≤ Rows.uptoBulk d := by
  have := sumBulkR List.length (fun d x h => bulkLenR h) h
  rwa [← List.length_flatten] at this
theorem bulkMsgR {H : Type} {d : DataW H} {xs : List Msg} (h : DSz ZMsg d xs) : (xs.map fun m => m.body.length).sum ≤ Rows.uptoBulk d :=
  sumBulkR (fun m : Msg => m.body.length) (fun d x h => by
    obtain ⟨d0, d1, d2, rfl, h⟩ := h
    have := bulkLenR h
    simp only [Rows.uptoBulk, Rows.uptoBulkAll]; omega) h

set_option maxHeartbeats 800000 in
set_option maxRecDepth 100000 in
theorem linkRisesContract (H : Type) (enc : TypeId × Value → H) (W : World) (base : Nat) (args : Array Value) (ds gs : List (DataW H)) (before : List MemPlace)
    (hval0 : ∀ (j : Nat) t v, Try.f3.params[j]? = some t → args[j]? = some v → Value.okWide Try.prog W .any base t v)
    (hW : DataW.Whole enc Try.prog Try.f3.params.toList Rows.linkRisesSpec.vars false W args.toList ds gs before) (hk : Rows.uptoSmall H (ds ++ gs) = true) :
    Calls Try.prog 3 args W fun e W' => ∃ v, e = .returned v ∧ Rows.linkRisesSpec.post enc Try.prog Try.f3 false true false false W args v W' := by
  have hval : ∀ (j : Nat) t v, Try.f3.params[j]? = some t → args[j]? = some v → Value.okWide Try.prog W .any base t v := hval0
  have hW' := hW
  obtain ⟨p, q, hA0, hV, rfl, hfz, hnd⟩ := hW
  have hA : DataW.TrodAll enc Try.prog W 0 (fun _ => true) true Try.f3.params.toList args.toList ds p := hA0
  rw [Try.params3] at hA hval
  obtain ⟨v0, vs0, d0, ds0, p0, q0, hargs, rfl, rfl, h0, r0⟩ := trodAll_cons hA
  obtain ⟨v1, vs1, d1, ds1, p1, q1, rfl, rfl, rfl, h1, r1⟩ := trodAll_cons r0
  obtain ⟨rfl, rfl, rfl⟩ := trodAll_nil r1
  obtain rfl : args = #[v0, v1] := by cases args; simp_all
  obtain ⟨rfl, rfl⟩ := trodVars_none hV
  have k0 := h0
  have lt0 : ∀ x ∈ p0, x.block < W.heap.size := by obtain ⟨m, hm⟩ := k0; exact DataW.trod_lt m _ _ _ hm
  obtain ⟨fuel0, hf0⟩ := h0
  obtain ⟨cs0, rfl, hsz0, hcs0⟩ := open_scal Try.underlying24 (by kernel_rfl) (by kernel_rfl) (hval 0 24 v0 rfl rfl) hf0
  obtain ⟨c0_0, c0_1, c0_2, rfl⟩ : ∃ b0 b1 b2, cs0 = #[b0, b1, b2] := by
    exact arr3 hsz0
  obtain ⟨n0_0, y0_0, hy0_0⟩ := hcs0 0 _ _ rfl rfl
  obtain ⟨a0_0, e0_0, -⟩ := DataW.trod_bool Try.underlying4 hy0_0
  obtain rfl : c0_0 = .bool a0_0 := by simpa using e0_0
  obtain ⟨n0_1, y0_1, hy0_1⟩ := hcs0 1 _ _ rfl rfl
  obtain ⟨a0_1, e0_1, -, w0_1⟩ := DataW.trod_int Try.underlying22 hy0_1
  obtain rfl : c0_1 = .int .u32 a0_1 := by simpa using e0_1
  obtain ⟨n0_2, y0_2, hy0_2⟩ := hcs0 2 _ _ rfl rfl
  obtain ⟨a0_2, e0_2, -, w0_2⟩ := DataW.trod_int Try.underlying3 hy0_2
  obtain rfl : c0_2 = .int .i64 a0_2 := by simpa using e0_2
  have k1 := h1
  have lt1 : ∀ x ∈ p1, x.block < W.heap.size := by obtain ⟨m, hm⟩ := k1; exact DataW.trod_lt m _ _ _ hm
  obtain ⟨xs1, w1, z1⟩ : ∃ xs : List (ty 11), Rep W (· < W.heap.size) noIds v1 (.sl 11 xs) ∧ DSz (DSz ZMsg) d1 xs := by
    obtain ⟨fuel, hf⟩ := h1
    exact rep_in (c := 11) (by decide) Try.underlying25 (by kernel_rfl) (cells_msgs Try.underlying27 (by kernel_rfl) (cells_msg Try.underlying34 (by kernel_rfl) rfl Try.underlying5 Try.underlying22 Try.underlying32 Try.underlying5 (by kernel_rfl) (by kernel_rfl) (by kernel_rfl) (by kernel_rfl))) (hval 1 25 v1 rfl rfl) hf
  clear hA0 hval0
  have hb := of_decide_eq_true hk
  simp only [List.append_nil, Rows.uptoBulkAll] at hb
  have hk0_1 : kwf .u32 a0_1 := by simpa [Lit.wf, kwf] using w0_1
  have hk0_2 : kwf .i64 a0_2 := by simpa [Lit.wf, kwf] using w0_2
  have hz1 : xs1.length ≤ 1048576 := by have := bulkLenR z1; omega
  refine (calls_of_holds linkRises_ok Try.call3 (w := W) (vals := #[.agg #[.bool a0_0, .int .u32 a0_1, .int .i64 a0_2], v1]) (args := [.agg [.bool a0_0, .int .u32 a0_1, .int .i64 a0_2], .sl 11 xs1]) rfl (fun j v hj => ?_) ⟨hk0_1, hk0_2, hz1, rfl⟩).mono fun e W' ⟨he, bel⟩ => ?_
  · rcases j with _ | _ | j
    · simp at hj; subst hj; refine .agg rfl (fun j v h => ?_) (fun j v h => ?_) <;> rcases j with _ | _ | _ | j <;> simp at h <;> subst h <;> first | rfl | exact .bool | exact .int (by assumption) | assumption
    · simp at hj; subst hj; exact w1
    · simp at hj
  subst he
  exact ⟨_, rfl, _, _, _, [], _, [], hW', trodAll_mk1 (shut_bool Try.underlying4 _), (trodAll_cons_mk (Below.trod laidR (by kernel_rfl) (of_decide_eq_true (by kernel_rfl)) k0 bel lt0) (trodAll_cons_mk (Below.trod laidR (by kernel_rfl) (of_decide_eq_true (by kernel_rfl)) k1 bel lt1) trodAll_mk0)), rfl, bel.frame _, fun h => by cases h⟩

set_option maxRecDepth 100000 in
theorem linkRisesLifted (os : Os) (started : os.Started) (H : Type) (enc : TypeId × Value → H) (F : Stop.Interp) :
    ReturnsInHanded {} Try.checked os 3 .any ((Rows.OpenSpec.upto Rows.linkRisesSpec).pre6 enc Try.prog Try.f3 Rows.linkRisesUptoRow.domain false) (((Rows.OpenSpec.upto Rows.linkRisesSpec).at F).post enc Try.prog Try.f3 false true false false) := by
  refine returnsInHanded_of_cond (C := Try.checked) (s := Rows.OpenSpec.upto Rows.linkRisesSpec) (k := Rows.uptoSmall) rfl ownR started (by kernel_rfl) Try.func3
    (OpenSpec.witness (enc := enc) (C := Try.checked) (s := Rows.OpenSpec.upto Rows.linkRisesSpec) (k := Rows.uptoSmall) rfl false ⟨#[], #[.agg #[.bool false, .int .u32 0, .int .i64 0], .slice none 0 0], []⟩ 8 (by kernel_rfl) (by kernel_rfl) (by kernel_rfl)
      (x := ([.agg [.lit (.bool false), .lit (.int .u32 0), .lit (.int .i64 0)], .nil], [], [])) (by kernel_rfl) rfl (by kernel_rfl)) ?_
  intro W base args ds gs before hval hW _ hk _
  exact linkRisesContract H enc W base args ds gs before hval hW hk

theorem linkRises_said : Rows.LinkRisesUptoSaid :=
  OpenClaim.holds_of_cond 3 Try.f3 rfl rfl rfl rfl rfl rfl rfl ⟨rfl, rfl, rfl, rfl, rfl⟩ rfl rfl rfl rfl rfl (by kernel_rfl) Try.func3 (by kernel_rfl)
    (of_decide_eq_true (by kernel_rfl)) (by unfold Func.isWrapper; first | (rw [if_pos (by decide +kernel)]; kernel_rfl) | (rw [if_neg (by decide +kernel)]; exact ⟨rfl, rfl⟩))
    (fun os started H enc _ F => linkRisesLifted os started H enc F)
#print axioms linkRises_said
end Go.Proofs.Ytpkfadgennejnaa


