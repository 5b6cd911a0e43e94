/- LinkFresh: a link is fresh for just as many ticks as it is watched, from the one on in which something was taken. Any link, message, number of ticks and watch. No conditions beyond the row's own. -/
import Derived.Test.YtpkfadgennejnaaLkF
import Derived.Test.YtpkfadgennejnaaEngY
import Derived.Test.YtpkfadgennejnaaRows
namespace Go.Proofs.Ytpkfadgennejnaa
open Go Go.Eng Go.Lk Go.Proofs
set_option linter.unusedVariables false
set_option maxHeartbeats 2000000 in
theorem linkFresh_vc (an : Bool) (la : Int) (la0 : (0 : Int) ≤ la) (la1 : la ≤ (4294967295 : Int)) (ag : Int) (ag0 : (-9223372036854775808 : Int) ≤ ag) (ag1 : ag ≤ (9223372036854775807 : Int)) (kd : Int) (kd0 : (0 : Int) ≤ kd) (kd1 : kd ≤ (255 : Int)) (sq : Int) (sq0 : (0 : Int) ≤ sq) (sq1 : sq ≤ (4294967295 : Int)) (bo : List UInt8) (ticks : Int) (ticks0 : (-9223372036854775808 : Int) ≤ ticks) (ticks1 : ticks ≤ (9223372036854775807 : Int)) (w : Int) (w0 : (-9223372036854775808 : Int) ≤ w) (w1 : w ≤ (9223372036854775807 : Int)) (k : AV → List (Option Blk) → List Blk → Prop) (hk : k (AV.bool true) [] []) :
  ∀ (n1 : Int),
  (n1 = (↑bo.length : Int)) →
  br (bif bif decide (ticks < (0 : Int)) then true else decide (ticks > (200 : Int)) then true else decide (n1 > (512 : Int)))
   ((k (AV.bool true) [] []))
   ((
     ((0 : Int) ≤ la) ∧
     (la ≤ (4294967295 : Int))) ∧
    (
     ((-9223372036854775808 : Int) ≤ ag) ∧
     (ag ≤ (9223372036854775807 : Int))) ∧
    (
     ∀ (e_3 : Int),
     (e_3 = lE an la ag (List.take (1 : Nat) (List.drop (0 : Nat) [{ kind := UInt8.ofNat kd.toNat, seq := UInt32.ofNat sq.toNat, body := bo : Msg }]))) →
     (e_3 ≠ (0 : Int)) →
     ∀ (n6 : Int),
     (n6 = (0 : Int)) →
     br (bif e_3 != (0 : Int) then true else n6 == (0 : Int))
      ((k (AV.bool true) [] []))
      ((
        ∃ (v : Int),
        (ticks = ticks) ∧
        (w = w) ∧
        (true = true) ∧
        ((0 : Int) = v) ∧
        (kd = kd) ∧
        (sq = sq) ∧
        (bo = bo) ∧
        (false = true) ∧
        ((0 : Int) = sq) ∧
        ((0 : Int) = v) ∧
        (
         ((0 : Int) ≤ v) ∧
         (v ≤ ticks + (1 : Int))) ∧
        (
         ((0 : Int) ≤ ticks) ∧
         (ticks ≤ (200 : Int))) ∧
        (bo.length ≤ (512 : Nat))) ∧
       ∀ (v_8 : Int),
       (((0 : Int) ≤ v_8 ∧ v_8 ≤ ticks + (1 : Int)) ∧ ((0 : Int) ≤ ticks ∧ ticks ≤ (200 : Int)) ∧ bo.length ≤ (512 : Nat)) →
       br (decide (v_8 ≤ ticks))
        ((
          ((0 : Int) ≤ sq) ∧
          (sq ≤ (4294967295 : Int))) ∧
         (
          ((-9223372036854775808 : Int) ≤ v_8) ∧
          (v_8 ≤ (9223372036854775807 : Int))) ∧
         (
          ((-9223372036854775808 : Int) ≤ w) ∧
          (w ≤ (9223372036854775807 : Int))) ∧
         (
          ∀ (e_10 : Int),
          (e_10 = fE true sq v_8 w) →
          (e_10 ≠ (0 : Int)) →
          br (e_10 != (0 : Int))
           ((k (AV.bool (bif bif true then !false else false then bif decide (w < (1 : Int)) then true else decide (w > (1048576 : Int)) else false)) [] []))
           (∀ (n13 : Int),
            (n13 = v_8) →
            br (bif !false == decide (v_8 < w) then true else n13 != v_8)
             ((k (AV.bool false) [] []))
             ((
               ((0 : Int) ≤ sq) ∧
               (sq ≤ (4294967295 : Int))) ∧
              (
               ((-9223372036854775808 : Int) ≤ v_8) ∧
               (v_8 ≤ (9223372036854775807 : Int))) ∧
              (
               ∀ (e_15 : Int),
               (e_15 = lE true sq v_8 (List.take (1 : Nat) (List.drop (0 : Nat) [{ kind := UInt8.ofNat kd.toNat, seq := UInt32.ofNat sq.toNat, body := bo : Msg }]))) →
               (e_15 ≠ (0 : Int)) →
               ∀ (n18 : Int),
               (n18 = (0 : Int)) →
               br (bif e_15 != (0 : Int) then true else n18 != (0 : Int))
                ((k (AV.bool false) [] []))
                (∀ (n20 : Int),
                 (n20 = IntKind.i64.wrap (v_8 + (1 : Int))) →
                 ((-9223372036854775808 : Int) ≤ n20 ∧ n20 ≤ (9223372036854775807 : Int)) →
                 ∃ (v' : Int),
                 (ticks = ticks) ∧
                 (w = w) ∧
                 (true = true) ∧
                 (n20 = v') ∧
                 (kd = kd) ∧
                 (sq = sq) ∧
                 (bo = bo) ∧
                 (false = true) ∧
                 ((0 : Int) = sq) ∧
                 ((0 : Int) = v') ∧
                 (
                  (
                   ((0 : Int) ≤ v') ∧
                   (v' ≤ ticks + (1 : Int))) ∧
                  (
                   ((0 : Int) ≤ ticks) ∧
                   (ticks ≤ (200 : Int))) ∧
                  (bo.length ≤ (512 : Nat))) ∧
                 ((ticks + (1 : Int) - v').toNat < (ticks + (1 : Int) - v_8).toNat))) ∧
              ((lE true sq v_8 (List.take (1 : Nat) (List.drop (0 : Nat) [{ kind := UInt8.ofNat kd.toNat, seq := UInt32.ofNat sq.toNat, body := bo : Msg }])) = (0 : Int)) →
              ∀ (b_24 : Bool),
              ∀ (l_25 : Int),
              ∀ (a_26 : Int),
              ∀ (ys_27 : List Msg),
              ∀ (n_28 : Nat),
              ((b_24, l_25) = stk (true, sq) (List.take (1 : Nat) (List.drop (0 : Nat) [{ kind := UInt8.ofNat kd.toNat, seq := UInt32.ofNat sq.toNat, body := bo : Msg }]))) →
              ((0 : Int) ≤ l_25 ∧ l_25 ≤ (4294967295 : Int)) →
              (ys_27 = tk (true, sq) (List.take (1 : Nat) (List.drop (0 : Nat) [{ kind := UInt8.ofNat kd.toNat, seq := UInt32.ofNat sq.toNat, body := bo : Msg }]))) →
              (ys_27.length = n_28) →
              (a_26 = ageN v_8 n_28) →
              ∀ (n34 : Int),
              (n34 = (↑n_28 : Int)) →
              br (bif (0 : Int) != (0 : Int) then true else n34 != (0 : Int))
               ((k (AV.bool false) [] []))
               (∀ (n36 : Int),
                (n36 = IntKind.i64.wrap (v_8 + (1 : Int))) →
                ((-9223372036854775808 : Int) ≤ n36 ∧ n36 ≤ (9223372036854775807 : Int)) →
                ∃ (v' : Int),
                (ticks = ticks) ∧
                (w = w) ∧
                (true = true) ∧
                (n36 = v') ∧
                (kd = kd) ∧
                (sq = sq) ∧
                (bo = bo) ∧
                (b_24 = true) ∧
                (l_25 = sq) ∧
                (a_26 = v') ∧
                (
                 (
                  ((0 : Int) ≤ v') ∧
                  (v' ≤ ticks + (1 : Int))) ∧
                 (
                  ((0 : Int) ≤ ticks) ∧
                  (ticks ≤ (200 : Int))) ∧
                 (bo.length ≤ (512 : Nat))) ∧
                ((ticks + (1 : Int) - v').toNat < (ticks + (1 : Int) - v_8).toNat)))))) ∧
         ((fE true sq v_8 w = (0 : Int)) →
         ∀ (b_40 : Bool),
         (b_40 = (true && decide (v_8 < w))) →
         ∀ (n42 : Int),
         (n42 = v_8) →
         br (bif !b_40 == decide (v_8 < w) then true else n42 != v_8)
          ((k (AV.bool false) [] []))
          ((
            ((0 : Int) ≤ sq) ∧
            (sq ≤ (4294967295 : Int))) ∧
           (
            ((-9223372036854775808 : Int) ≤ v_8) ∧
            (v_8 ≤ (9223372036854775807 : Int))) ∧
           (
            ∀ (e_44 : Int),
            (e_44 = lE true sq v_8 (List.take (1 : Nat) (List.drop (0 : Nat) [{ kind := UInt8.ofNat kd.toNat, seq := UInt32.ofNat sq.toNat, body := bo : Msg }]))) →
            (e_44 ≠ (0 : Int)) →
            ∀ (n47 : Int),
            (n47 = (0 : Int)) →
            br (bif e_44 != (0 : Int) then true else n47 != (0 : Int))
             ((k (AV.bool false) [] []))
             (∀ (n49 : Int),
              (n49 = IntKind.i64.wrap (v_8 + (1 : Int))) →
              ((-9223372036854775808 : Int) ≤ n49 ∧ n49 ≤ (9223372036854775807 : Int)) →
              ∃ (v' : Int),
              (ticks = ticks) ∧
              (w = w) ∧
              (true = true) ∧
              (n49 = v') ∧
              (kd = kd) ∧
              (sq = sq) ∧
              (bo = bo) ∧
              (false = true) ∧
              ((0 : Int) = sq) ∧
              ((0 : Int) = v') ∧
              (
               (
                ((0 : Int) ≤ v') ∧
                (v' ≤ ticks + (1 : Int))) ∧
               (
                ((0 : Int) ≤ ticks) ∧
                (ticks ≤ (200 : Int))) ∧
               (bo.length ≤ (512 : Nat))) ∧
              ((ticks + (1 : Int) - v').toNat < (ticks + (1 : Int) - v_8).toNat))) ∧
           ((lE true sq v_8 (List.take (1 : Nat) (List.drop (0 : Nat) [{ kind := UInt8.ofNat kd.toNat, seq := UInt32.ofNat sq.toNat, body := bo : Msg }])) = (0 : Int)) →
           ∀ (b_53 : Bool),
           ∀ (l_54 : Int),
           ∀ (a_55 : Int),
           ∀ (ys_56 : List Msg),
           ∀ (n_57 : Nat),
           ((b_53, l_54) = stk (true, sq) (List.take (1 : Nat) (List.drop (0 : Nat) [{ kind := UInt8.ofNat kd.toNat, seq := UInt32.ofNat sq.toNat, body := bo : Msg }]))) →
           ((0 : Int) ≤ l_54 ∧ l_54 ≤ (4294967295 : Int)) →
           (ys_56 = tk (true, sq) (List.take (1 : Nat) (List.drop (0 : Nat) [{ kind := UInt8.ofNat kd.toNat, seq := UInt32.ofNat sq.toNat, body := bo : Msg }]))) →
           (ys_56.length = n_57) →
           (a_55 = ageN v_8 n_57) →
           ∀ (n63 : Int),
           (n63 = (↑n_57 : Int)) →
           br (bif (0 : Int) != (0 : Int) then true else n63 != (0 : Int))
            ((k (AV.bool false) [] []))
            (∀ (n65 : Int),
             (n65 = IntKind.i64.wrap (v_8 + (1 : Int))) →
             ((-9223372036854775808 : Int) ≤ n65 ∧ n65 ≤ (9223372036854775807 : Int)) →
             ∃ (v' : Int),
             (ticks = ticks) ∧
             (w = w) ∧
             (true = true) ∧
             (n65 = v') ∧
             (kd = kd) ∧
             (sq = sq) ∧
             (bo = bo) ∧
             (b_53 = true) ∧
             (l_54 = sq) ∧
             (a_55 = v') ∧
             (
              (
               ((0 : Int) ≤ v') ∧
               (v' ≤ ticks + (1 : Int))) ∧
              (
               ((0 : Int) ≤ ticks) ∧
               (ticks ≤ (200 : Int))) ∧
              (bo.length ≤ (512 : Nat))) ∧
             ((ticks + (1 : Int) - v').toNat < (ticks + (1 : Int) - v_8).toNat))))))
        ((k (AV.bool true) [] [])))) ∧
    ((lE an la ag (List.take (1 : Nat) (List.drop (0 : Nat) [{ kind := UInt8.ofNat kd.toNat, seq := UInt32.ofNat sq.toNat, body := bo : Msg }])) = (0 : Int)) →
    ∀ (b_68 : Bool),
    ∀ (l_69 : Int),
    ∀ (a_70 : Int),
    ∀ (ys_71 : List Msg),
    ∀ (n_72 : Nat),
    ((b_68, l_69) = stk (an, la) (List.take (1 : Nat) (List.drop (0 : Nat) [{ kind := UInt8.ofNat kd.toNat, seq := UInt32.ofNat sq.toNat, body := bo : Msg }]))) →
    ((0 : Int) ≤ l_69 ∧ l_69 ≤ (4294967295 : Int)) →
    (ys_71 = tk (an, la) (List.take (1 : Nat) (List.drop (0 : Nat) [{ kind := UInt8.ofNat kd.toNat, seq := UInt32.ofNat sq.toNat, body := bo : Msg }]))) →
    (ys_71.length = n_72) →
    (a_70 = ageN ag n_72) →
    ∀ (n78 : Int),
    (n78 = (↑n_72 : Int)) →
    br (bif (0 : Int) != (0 : Int) then true else n78 == (0 : Int))
     ((k (AV.bool true) [] []))
     ((
       ∃ (v : Int),
       (ticks = ticks) ∧
       (w = w) ∧
       (true = true) ∧
       ((0 : Int) = v) ∧
       (kd = kd) ∧
       (sq = sq) ∧
       (bo = bo) ∧
       (b_68 = true) ∧
       (l_69 = sq) ∧
       (a_70 = v) ∧
       (
        ((0 : Int) ≤ v) ∧
        (v ≤ ticks + (1 : Int))) ∧
       (
        ((0 : Int) ≤ ticks) ∧
        (ticks ≤ (200 : Int))) ∧
       (bo.length ≤ (512 : Nat))) ∧
      ∀ (v_80 : Int),
      (((0 : Int) ≤ v_80 ∧ v_80 ≤ ticks + (1 : Int)) ∧ ((0 : Int) ≤ ticks ∧ ticks ≤ (200 : Int)) ∧ bo.length ≤ (512 : Nat)) →
      br (decide (v_80 ≤ ticks))
       ((
         ((0 : Int) ≤ sq) ∧
         (sq ≤ (4294967295 : Int))) ∧
        (
         ((-9223372036854775808 : Int) ≤ v_80) ∧
         (v_80 ≤ (9223372036854775807 : Int))) ∧
        (
         ((-9223372036854775808 : Int) ≤ w) ∧
         (w ≤ (9223372036854775807 : Int))) ∧
        (
         ∀ (e_82 : Int),
         (e_82 = fE true sq v_80 w) →
         (e_82 ≠ (0 : Int)) →
         br (e_82 != (0 : Int))
          ((k (AV.bool (bif bif true then !false else false then bif decide (w < (1 : Int)) then true else decide (w > (1048576 : Int)) else false)) [] []))
          (∀ (n85 : Int),
           (n85 = v_80) →
           br (bif !false == decide (v_80 < w) then true else n85 != v_80)
            ((k (AV.bool false) [] []))
            ((
              ((0 : Int) ≤ sq) ∧
              (sq ≤ (4294967295 : Int))) ∧
             (
              ((-9223372036854775808 : Int) ≤ v_80) ∧
              (v_80 ≤ (9223372036854775807 : Int))) ∧
             (
              ∀ (e_87 : Int),
              (e_87 = lE true sq v_80 (List.take (1 : Nat) (List.drop (0 : Nat) [{ kind := UInt8.ofNat kd.toNat, seq := UInt32.ofNat sq.toNat, body := bo : Msg }]))) →
              (e_87 ≠ (0 : Int)) →
              ∀ (n90 : Int),
              (n90 = (0 : Int)) →
              br (bif e_87 != (0 : Int) then true else n90 != (0 : Int))
               ((k (AV.bool false) [] []))
               (∀ (n92 : Int),
                (n92 = IntKind.i64.wrap (v_80 + (1 : Int))) →
                ((-9223372036854775808 : Int) ≤ n92 ∧ n92 ≤ (9223372036854775807 : Int)) →
                ∃ (v' : Int),
                (ticks = ticks) ∧
                (w = w) ∧
                (true = true) ∧
                (n92 = v') ∧
                (kd = kd) ∧
                (sq = sq) ∧
                (bo = bo) ∧
                (false = true) ∧
                ((0 : Int) = sq) ∧
                ((0 : Int) = v') ∧
                (
                 (
                  ((0 : Int) ≤ v') ∧
                  (v' ≤ ticks + (1 : Int))) ∧
                 (
                  ((0 : Int) ≤ ticks) ∧
                  (ticks ≤ (200 : Int))) ∧
                 (bo.length ≤ (512 : Nat))) ∧
                ((ticks + (1 : Int) - v').toNat < (ticks + (1 : Int) - v_80).toNat))) ∧
             ((lE true sq v_80 (List.take (1 : Nat) (List.drop (0 : Nat) [{ kind := UInt8.ofNat kd.toNat, seq := UInt32.ofNat sq.toNat, body := bo : Msg }])) = (0 : Int)) →
             ∀ (b_96 : Bool),
             ∀ (l_97 : Int),
             ∀ (a_98 : Int),
             ∀ (ys_99 : List Msg),
             ∀ (n_100 : Nat),
             ((b_96, l_97) = stk (true, sq) (List.take (1 : Nat) (List.drop (0 : Nat) [{ kind := UInt8.ofNat kd.toNat, seq := UInt32.ofNat sq.toNat, body := bo : Msg }]))) →
             ((0 : Int) ≤ l_97 ∧ l_97 ≤ (4294967295 : Int)) →
             (ys_99 = tk (true, sq) (List.take (1 : Nat) (List.drop (0 : Nat) [{ kind := UInt8.ofNat kd.toNat, seq := UInt32.ofNat sq.toNat, body := bo : Msg }]))) →
             (ys_99.length = n_100) →
             (a_98 = ageN v_80 n_100) →
             ∀ (n106 : Int),
             (n106 = (↑n_100 : Int)) →
             br (bif (0 : Int) != (0 : Int) then true else n106 != (0 : Int))
              ((k (AV.bool false) [] []))
              (∀ (n108 : Int),
               (n108 = IntKind.i64.wrap (v_80 + (1 : Int))) →
               ((-9223372036854775808 : Int) ≤ n108 ∧ n108 ≤ (9223372036854775807 : Int)) →
               ∃ (v' : Int),
               (ticks = ticks) ∧
               (w = w) ∧
               (true = true) ∧
               (n108 = v') ∧
               (kd = kd) ∧
               (sq = sq) ∧
               (bo = bo) ∧
               (b_96 = true) ∧
               (l_97 = sq) ∧
               (a_98 = v') ∧
               (
                (
                 ((0 : Int) ≤ v') ∧
                 (v' ≤ ticks + (1 : Int))) ∧
                (
                 ((0 : Int) ≤ ticks) ∧
                 (ticks ≤ (200 : Int))) ∧
                (bo.length ≤ (512 : Nat))) ∧
               ((ticks + (1 : Int) - v').toNat < (ticks + (1 : Int) - v_80).toNat)))))) ∧
        ((fE true sq v_80 w = (0 : Int)) →
        ∀ (b_112 : Bool),
        (b_112 = (true && decide (v_80 < w))) →
        ∀ (n114 : Int),
        (n114 = v_80) →
        br (bif !b_112 == decide (v_80 < w) then true else n114 != v_80)
         ((k (AV.bool false) [] []))
         ((
           ((0 : Int) ≤ sq) ∧
           (sq ≤ (4294967295 : Int))) ∧
          (
           ((-9223372036854775808 : Int) ≤ v_80) ∧
           (v_80 ≤ (9223372036854775807 : Int))) ∧
          (
           ∀ (e_116 : Int),
           (e_116 = lE true sq v_80 (List.take (1 : Nat) (List.drop (0 : Nat) [{ kind := UInt8.ofNat kd.toNat, seq := UInt32.ofNat sq.toNat, body := bo : Msg }]))) →
           (e_116 ≠ (0 : Int)) →
           ∀ (n119 : Int),
           (n119 = (0 : Int)) →
           br (bif e_116 != (0 : Int) then true else n119 != (0 : Int))
            ((k (AV.bool false) [] []))
            (∀ (n121 : Int),
             (n121 = IntKind.i64.wrap (v_80 + (1 : Int))) →
             ((-9223372036854775808 : Int) ≤ n121 ∧ n121 ≤ (9223372036854775807 : Int)) →
             ∃ (v' : Int),
             (ticks = ticks) ∧
             (w = w) ∧
             (true = true) ∧
             (n121 = v') ∧
             (kd = kd) ∧
             (sq = sq) ∧
             (bo = bo) ∧
             (false = true) ∧
             ((0 : Int) = sq) ∧
             ((0 : Int) = v') ∧
             (
              (
               ((0 : Int) ≤ v') ∧
               (v' ≤ ticks + (1 : Int))) ∧
              (
               ((0 : Int) ≤ ticks) ∧
               (ticks ≤ (200 : Int))) ∧
              (bo.length ≤ (512 : Nat))) ∧
             ((ticks + (1 : Int) - v').toNat < (ticks + (1 : Int) - v_80).toNat))) ∧
          ((lE true sq v_80 (List.take (1 : Nat) (List.drop (0 : Nat) [{ kind := UInt8.ofNat kd.toNat, seq := UInt32.ofNat sq.toNat, body := bo : Msg }])) = (0 : Int)) →
          ∀ (b_125 : Bool),
          ∀ (l_126 : Int),
          ∀ (a_127 : Int),
          ∀ (ys_128 : List Msg),
          ∀ (n_129 : Nat),
          ((b_125, l_126) = stk (true, sq) (List.take (1 : Nat) (List.drop (0 : Nat) [{ kind := UInt8.ofNat kd.toNat, seq := UInt32.ofNat sq.toNat, body := bo : Msg }]))) →
          ((0 : Int) ≤ l_126 ∧ l_126 ≤ (4294967295 : Int)) →
          (ys_128 = tk (true, sq) (List.take (1 : Nat) (List.drop (0 : Nat) [{ kind := UInt8.ofNat kd.toNat, seq := UInt32.ofNat sq.toNat, body := bo : Msg }]))) →
          (ys_128.length = n_129) →
          (a_127 = ageN v_80 n_129) →
          ∀ (n135 : Int),
          (n135 = (↑n_129 : Int)) →
          br (bif (0 : Int) != (0 : Int) then true else n135 != (0 : Int))
           ((k (AV.bool false) [] []))
           (∀ (n137 : Int),
            (n137 = IntKind.i64.wrap (v_80 + (1 : Int))) →
            ((-9223372036854775808 : Int) ≤ n137 ∧ n137 ≤ (9223372036854775807 : Int)) →
            ∃ (v' : Int),
            (ticks = ticks) ∧
            (w = w) ∧
            (true = true) ∧
            (n137 = v') ∧
            (kd = kd) ∧
            (sq = sq) ∧
            (bo = bo) ∧
            (b_125 = true) ∧
            (l_126 = sq) ∧
            (a_127 = v') ∧
            (
             (
              ((0 : Int) ≤ v') ∧
              (v' ≤ ticks + (1 : Int))) ∧
             (
              ((0 : Int) ≤ ticks) ∧
              (ticks ≤ (200 : Int))) ∧
             (bo.length ≤ (512 : Nat))) ∧
            ((ticks + (1 : Int) - v').toNat < (ticks + (1 : Int) - v_80).toNat))))))
       ((k (AV.bool true) [] []))))) := by
  intro n1
  intro q1 -- n1 = (↑bo.length : Int)
  refine br_intro (fun c1 => ?_) (fun c1 => ?_) -- bif bif decide (ticks < (0 : Int)) then true else decide (ticks > (200 : Int)) then true else decide (n1 > (512 : Int))
  · -- yes
    simp at c1 -- (ticks < (0 : Int) ∨ (200 : Int) < ticks) ∨ (512 : Int) < n1
    exact by exact hk -- k (AV.bool true) [] []
  · -- no
    simp at c1 -- ((0 : Int) ≤ ticks ∧ ticks ≤ (200 : Int)) ∧ n1 ≤ (512 : Int)
    refine ⟨by exact ⟨by assumption, by assumption⟩, ?_⟩ -- (0 : Int) ≤ la ∧ la ≤ (4294967295 : Int)
    refine ⟨by exact ⟨by assumption, by assumption⟩, ?_⟩ -- (-9223372036854775808 : Int) ≤ ag ∧ ag ≤ (9223372036854775807 : Int)
    refine ⟨?_, ?_⟩
    · -- left
      intro e_3
      intro h2 -- e_3 = lE an la ag (List.take (1 : Nat) (List.drop (0 : Nat) [{ kind := UInt8.ofNat kd.toNat, seq := UInt32.ofNat sq.toNat, body := bo : Msg }]))
      intro h3 -- e_3 ≠ (0 : Int)
      intro n6
      intro q6 -- n6 = (0 : Int)
      refine br_intro (fun c4 => ?_) (fun c4 => ?_) -- bif e_3 != (0 : Int) then true else n6 == (0 : Int)
      · -- yes
        simp at c4 -- ¬e_3 = (0 : Int) ∨ n6 = (0 : Int)
        exact by exact hk -- k (AV.bool true) [] []
      · -- no
        simp at c4 -- e_3 = (0 : Int) ∧ ¬n6 = (0 : Int)
        exfalso; omega
    intro q6 -- lE an la ag (List.take (1 : Nat) (List.drop (0 : Nat) [{ kind := UInt8.ofNat kd.toNat, seq := UInt32.ofNat sq.toNat, body := bo : Msg }])) = (0 : Int)
    intro b_68
    intro l_69
    intro a_70
    intro ys_71
    intro n_72
    intro h5 -- (b_68, l_69) = stk (an, la) (List.take (1 : Nat) (List.drop (0 : Nat) [{ kind := UInt8.ofNat kd.toNat, seq := UInt32.ofNat sq.toNat, body := bo : Msg }]))
    intro ⟨a6, b6⟩ -- (0 : Int) ≤ l_69 ∧ l_69 ≤ (4294967295 : Int)
    intro h7 -- ys_71 = tk (an, la) (List.take (1 : Nat) (List.drop (0 : Nat) [{ kind := UInt8.ofNat kd.toNat, seq := UInt32.ofNat sq.toNat, body := bo : Msg }]))
    intro h8 -- ys_71.length = n_72
    intro h9 -- a_70 = ageN ag n_72
    intro n78
    intro q78 -- n78 = (↑n_72 : Int)
    refine br_intro (fun c10 => ?_) (fun c10 => ?_) -- bif (0 : Int) != (0 : Int) then true else n78 == (0 : Int)
    · -- yes
      simp at c10 -- n78 = (0 : Int)
      exact by exact hk -- k (AV.bool true) [] []
    · -- no
      simp at c10 -- ¬n78 = (0 : Int)
      refine ⟨?_, ?_⟩
      · -- left
        refine ⟨(0 : Int), ?_⟩
        refine ⟨by first | with_reducible rfl | rfl, ?_⟩ -- ticks = ticks
        refine ⟨by first | with_reducible rfl | rfl, ?_⟩ -- w = w
        refine ⟨by first | with_reducible rfl | rfl, ?_⟩ -- true = true
        refine ⟨by first | with_reducible rfl | rfl, ?_⟩ -- (0 : Int) = (0 : Int)
        refine ⟨by first | with_reducible rfl | rfl, ?_⟩ -- kd = kd
        refine ⟨by first | with_reducible rfl | rfl, ?_⟩ -- sq = sq
        refine ⟨by first | with_reducible rfl | rfl, ?_⟩ -- bo = bo
        have h11 : b_68 = true := by
          have A := one_new h7 h8 (by omega)
          rw [show List.take 1 (List.drop 0 [(⟨UInt8.ofNat kd.toNat, UInt32.ofNat sq.toNat, bo⟩ : Msg)]) = [⟨UInt8.ofNat kd.toNat, UInt32.ofNat sq.toNat, bo⟩] from rfl, A.2] at h5; exact (Prod.mk.inj h5).1
        refine ⟨h11, ?_⟩
        have h12 : l_69 = sq := by
          have A := one_new h7 h8 (by omega)
          rw [show List.take 1 (List.drop 0 [(⟨UInt8.ofNat kd.toNat, UInt32.ofNat sq.toNat, bo⟩ : Msg)]) = [⟨UInt8.ofNat kd.toNat, UInt32.ofNat sq.toNat, bo⟩] from rfl, A.2] at h5; exact (Prod.mk.inj h5).2.trans (u32_nat (by omega) (by omega))
        refine ⟨h12, ?_⟩
        have h13 : a_70 = (0 : Int) := by
          have A := one_new h7 h8 (by omega)
          rw [h9, A.1]; rfl
        refine ⟨h13, ?_⟩
        refine ⟨by first | omega | (dsimp only; omega), ?_⟩ -- (0 : Int) ≤ (0 : Int) ∧ (0 : Int) ≤ ticks + (1 : Int)
        refine ⟨by first | omega | (dsimp only; omega), ?_⟩ -- (0 : Int) ≤ ticks ∧ ticks ≤ (200 : Int)
        exact by show bo.length ≤ (512 : Nat); omega -- bo.length ≤ (512 : Nat)
      intro v_80
      intro h14 -- ((0 : Int) ≤ v_80 ∧ v_80 ≤ ticks + (1 : Int)) ∧ ((0 : Int) ≤ ticks ∧ ticks ≤ (200 : Int)) ∧ bo.length ≤ (512 : Nat)
      refine brd (fun c15 => ?_) (fun c15 => ?_) -- decide (v_80 ≤ ticks)
      · -- yes
        refine ⟨by exact ⟨by assumption, by assumption⟩, ?_⟩ -- (0 : Int) ≤ sq ∧ sq ≤ (4294967295 : Int)
        refine ⟨by first | omega | (dsimp only; omega), ?_⟩ -- (-9223372036854775808 : Int) ≤ v_80 ∧ v_80 ≤ (9223372036854775807 : Int)
        refine ⟨by exact ⟨by assumption, by assumption⟩, ?_⟩ -- (-9223372036854775808 : Int) ≤ w ∧ w ≤ (9223372036854775807 : Int)
        refine ⟨?_, ?_⟩
        · -- left
          intro e_82
          intro h16 -- e_82 = fE true sq v_80 w
          intro h17 -- e_82 ≠ (0 : Int)
          refine br_intro (fun c18 => ?_) (fun c18 => ?_) -- e_82 != (0 : Int)
          · -- yes
            simp at c18 -- ¬e_82 = (0 : Int)
            -- k (AV.bool (bif bif true then !false else false then bif decide (w < (1 : Int)) then true else decide (w > (1048576 : Int)) else false)) [] []
            have A := fE_ne h16 c18 (by omega)
            exact k_true hk (by simp; omega)
          · -- no
            simp at c18 -- e_82 = (0 : Int)
            exfalso; omega
        intro h19 -- fE true sq v_80 w = (0 : Int)
        intro b_112
        intro h20 -- b_112 = (true && decide (v_80 < w))
        simp at h20 -- b_112 = decide (v_80 < w)
        intro n114
        intro q114 -- n114 = v_80
        refine br_intro (fun c21 => ?_) (fun c21 => ?_) -- bif !b_112 == decide (v_80 < w) then true else n114 != v_80
        · -- yes
          simp at c21 -- ¬b_112 = decide (v_80 < w) ∨ ¬n114 = v_80
          -- k (AV.bool false) [] []
          exfalso
          rcases c21 with c | c
          · exact c h20
          · exact c q114
        · -- no
          simp at c21 -- b_112 = decide (v_80 < w) ∧ n114 = v_80
          refine ⟨by exact ⟨by assumption, by assumption⟩, ?_⟩ -- (0 : Int) ≤ sq ∧ sq ≤ (4294967295 : Int)
          refine ⟨by first | omega | (dsimp only; omega), ?_⟩ -- (-9223372036854775808 : Int) ≤ v_80 ∧ v_80 ≤ (9223372036854775807 : Int)
          refine ⟨?_, ?_⟩
          · -- left
            intro e_116
            intro h22 -- e_116 = lE true sq v_80 (List.take (1 : Nat) (List.drop (0 : Nat) [{ kind := UInt8.ofNat kd.toNat, seq := UInt32.ofNat sq.toNat, body := bo : Msg }]))
            intro h23 -- e_116 ≠ (0 : Int)
            intro n119
            intro q119 -- n119 = (0 : Int)
            refine br_intro (fun c24 => ?_) (fun c24 => ?_) -- bif e_116 != (0 : Int) then true else n119 != (0 : Int)
            · -- yes
              simp at c24 -- ¬e_116 = (0 : Int) ∨ ¬n119 = (0 : Int)
              -- k (AV.bool false) [] []
              exfalso
              rcases c24 with c | c
              · exact c (h22.trans (lE_0 (nbt (by omega)) (by simp) (big1 h14.2.2)))
              · exact c q119
            · -- no
              simp at c24 -- e_116 = (0 : Int) ∧ n119 = (0 : Int)
              exfalso; omega
          intro q119 -- lE true sq v_80 (List.take (1 : Nat) (List.drop (0 : Nat) [{ kind := UInt8.ofNat kd.toNat, seq := UInt32.ofNat sq.toNat, body := bo : Msg }])) = (0 : Int)
          intro b_125
          intro l_126
          intro a_127
          intro ys_128
          intro n_129
          intro h25 -- (b_125, l_126) = stk (true, sq) (List.take (1 : Nat) (List.drop (0 : Nat) [{ kind := UInt8.ofNat kd.toNat, seq := UInt32.ofNat sq.toNat, body := bo : Msg }]))
          intro ⟨a26, b26⟩ -- (0 : Int) ≤ l_126 ∧ l_126 ≤ (4294967295 : Int)
          intro h27 -- ys_128 = tk (true, sq) (List.take (1 : Nat) (List.drop (0 : Nat) [{ kind := UInt8.ofNat kd.toNat, seq := UInt32.ofNat sq.toNat, body := bo : Msg }]))
          intro h28 -- ys_128.length = n_129
          intro h29 -- a_127 = ageN v_80 n_129
          intro n135
          intro q135 -- n135 = (↑n_129 : Int)
          refine br_intro (fun c30 => ?_) (fun c30 => ?_) -- bif (0 : Int) != (0 : Int) then true else n135 != (0 : Int)
          · -- yes
            simp at c30 -- ¬n135 = (0 : Int)
            -- k (AV.bool false) [] []
            exfalso
            have A := one_old (m := (⟨UInt8.ofNat kd.toNat, UInt32.ofNat sq.toNat, bo⟩ : Msg)) (u32_nat (x := sq) (by omega) (by omega))
            apply c30
            rw [q135, ← h28, h27]
            exact congrArg (fun l : List Msg => (l.length : Int)) A.1
          · -- no
            simp at c30 -- n135 = (0 : Int)
            intro n137
            intro q137 -- n137 = IntKind.i64.wrap (v_80 + (1 : Int))
            rw [IntKind.wrap_i64] at q137
            intro ⟨l137, u137⟩ -- (-9223372036854775808 : Int) ≤ n137 ∧ n137 ≤ (9223372036854775807 : Int)
            refine ⟨n137, ?_⟩
            refine ⟨by first | with_reducible rfl | rfl, ?_⟩ -- ticks = ticks
            refine ⟨by first | with_reducible rfl | rfl, ?_⟩ -- w = w
            refine ⟨by first | with_reducible rfl | rfl, ?_⟩ -- true = true
            refine ⟨by first | with_reducible rfl | rfl, ?_⟩ -- n137 = n137
            refine ⟨by first | with_reducible rfl | rfl, ?_⟩ -- kd = kd
            refine ⟨by first | with_reducible rfl | rfl, ?_⟩ -- sq = sq
            refine ⟨by first | with_reducible rfl | rfl, ?_⟩ -- bo = bo
            have h31 : b_125 = true := by
              have A := one_old (m := (⟨UInt8.ofNat kd.toNat, UInt32.ofNat sq.toNat, bo⟩ : Msg)) (u32_nat (x := sq) (by omega) (by omega))
              exact (Prod.mk.inj (h25.trans A.2)).1
            refine ⟨h31, ?_⟩
            have h32 : l_126 = sq := by
              have A := one_old (m := (⟨UInt8.ofNat kd.toNat, UInt32.ofNat sq.toNat, bo⟩ : Msg)) (u32_nat (x := sq) (by omega) (by omega))
              exact (Prod.mk.inj (h25.trans A.2)).2
            refine ⟨h32, ?_⟩
            have h33 : a_127 = n137 := by
              have A := one_old (m := (⟨UInt8.ofNat kd.toNat, UInt32.ofNat sq.toNat, bo⟩ : Msg)) (u32_nat (x := sq) (by omega) (by omega))
              have e : n_129 = 0 := by rw [← h28, h27]; exact congrArg List.length A.1
              rw [h29, e]
              unfold ageN
              rw [if_neg (by omega)]
              omega
            refine ⟨h33, ?_⟩
            refine ⟨?_, ?_⟩
            · -- left
              refine ⟨by first | omega | (dsimp only; omega), ?_⟩ -- (0 : Int) ≤ n137 ∧ n137 ≤ ticks + (1 : Int)
              refine ⟨by first | omega | (dsimp only; omega), ?_⟩ -- (0 : Int) ≤ ticks ∧ ticks ≤ (200 : Int)
              exact by show bo.length ≤ (512 : Nat); omega -- bo.length ≤ (512 : Nat)
            exact by show (ticks + (1 : Int) - n137).toNat < (ticks + (1 : Int) - v_80).toNat; omega -- (ticks + (1 : Int) - n137).toNat < (ticks + (1 : Int) - v_80).toNat
      · -- no
        exact by exact hk -- k (AV.bool true) [] []

theorem linkFresh_ok : Holds Try.prog 5 lawFresh := by
  refine fn_sound (env := mkEnv T3) (tab_ok T3_ok) Try.func5 Try.call5 fun args k h => ?_
  match args, h with
  | [.agg [.bool an, .int .u32 la, .int .i64 ag], .agg [.int .u8 kd, .int .u32 sq, .sl 0 bo], .int .i64 ticks, .int .i64 w], h => exact ⟨by kernel_rfl, freshLoops kd sq bo ticks w, fun _ _ => none, .cast (by kernel_rfl) (linkFresh_vc an la h.1.1 h.1.2 ag h.2.1.1 h.2.1.2 kd h.2.2.1.1 h.2.2.1.2 sq h.2.2.2.1.1 h.2.2.2.1.2 bo ticks h.2.2.2.2.1.1 h.2.2.2.2.1.2 w h.2.2.2.2.2.1.1 h.2.2.2.2.2.1.2 k h.2.2.2.2.2.2)⟩
end Go.Proofs.Ytpkfadgennejnaa
namespace Go.Proofs.Ytpkfadgennejnaa
open Go.ChangeShapes Go.WideShapes Go.ChangeAt Go.RowKit Go.Eng
set_option linter.unusedVariables false

theorem ownF : ownKnob Try.prog.godebug = none := by kernel_rfl
theorem laidF : laidOutB Try.prog = true := by kernel_rfl

set_option maxHeartbeats 800000 in
set_option maxRecDepth 100000 in
theorem linkFreshLifted (os : Os) (started : os.Started) (H : Type) (enc : TypeId × Value → H) :
    ReturnsInHanded {} Try.checked os 5 .any (Rows.linkFreshSpec.pre6 enc Try.prog Try.f5 Rows.linkFreshRow.domain false) (Rows.linkFreshSpec.post enc Try.prog Try.f5 false true false false) := by
  refine returnsInHanded_of_change (C := Try.checked) ownF started (by kernel_rfl) Try.func5
    (ChangeSpec.witness6 (enc := enc) (C := Try.checked) false ⟨#[], #[.agg #[.bool false, .int .u32 0, .int .i64 0], .agg #[.int .u8 0, .int .u32 0, .slice none 0 0], .int .i64 0, .int .i64 0], []⟩ 8 (by kernel_rfl) (by kernel_rfl) (by kernel_rfl) (by kernel_rfl)) ?_
  intro W base args ds gs before hval0 hW hcnd _
  have hval : ∀ (j : Nat) t v, Try.f5.params[j]? = some t → args[j]? = some v → Value.okWide Try.prog W .any base t v := hval0
  have hW' := hW
  obtain ⟨p, q, hA0, hV, rfl, hfz, hnd⟩ := hW
  have hA : DataW.TrodAll enc Try.prog W 0 (fun _ => true) true Try.f5.params.toList args.toList ds p := hA0
  rw [Try.params5] at hA hval
  obtain ⟨v0, vs0, d0, ds0, p0, q0, hargs, rfl, rfl, h0, r0⟩ := trodAll_cons hA
  obtain ⟨v1, vs1, d1, ds1, p1, q1, rfl, rfl, rfl, h1, r1⟩ := trodAll_cons r0
  obtain ⟨v2, vs2, d2, ds2, p2, q2, rfl, rfl, rfl, h2, r2⟩ := trodAll_cons r1
  obtain ⟨v3, vs3, d3, ds3, p3, q3, rfl, rfl, rfl, h3, r3⟩ := trodAll_cons r2
  obtain ⟨rfl, rfl, rfl⟩ := trodAll_nil r3
  obtain rfl : args = #[v0, v1, v2, v3] := by cases args; simp_all
  obtain ⟨rfl, rfl⟩ := trodVars_none hV
  have k0 := h0
  have lt0 : ∀ x ∈ p0, x.block < W.heap.size := by obtain ⟨m, hm⟩ := k0; exact DataW.trod_lt m _ _ _ hm
  obtain ⟨fuel0, hf0⟩ := h0
  obtain ⟨cs0, rfl, hsz0, hcs0⟩ := open_scal Try.underlying24 (by kernel_rfl) (by kernel_rfl) (hval 0 24 v0 rfl rfl) hf0
  obtain ⟨c0_0, c0_1, c0_2, rfl⟩ : ∃ b0 b1 b2, cs0 = #[b0, b1, b2] := by
    exact arr3 hsz0
  obtain ⟨n0_0, y0_0, hy0_0⟩ := hcs0 0 _ _ rfl rfl
  obtain ⟨a0_0, e0_0, -⟩ := DataW.trod_bool Try.underlying4 hy0_0
  obtain rfl : c0_0 = .bool a0_0 := by simpa using e0_0
  obtain ⟨n0_1, y0_1, hy0_1⟩ := hcs0 1 _ _ rfl rfl
  obtain ⟨a0_1, e0_1, -, w0_1⟩ := DataW.trod_int Try.underlying22 hy0_1
  obtain rfl : c0_1 = .int .u32 a0_1 := by simpa using e0_1
  obtain ⟨n0_2, y0_2, hy0_2⟩ := hcs0 2 _ _ rfl rfl
  obtain ⟨a0_2, e0_2, -, w0_2⟩ := DataW.trod_int Try.underlying3 hy0_2
  obtain rfl : c0_2 = .int .i64 a0_2 := by simpa using e0_2
  have k1 := h1
  have lt1 : ∀ x ∈ p1, x.block < W.heap.size := by obtain ⟨m, hm⟩ := k1; exact DataW.trod_lt m _ _ _ hm
  obtain ⟨fuel1, hf1⟩ := h1
  obtain ⟨cs1, rfl, hsz1, hcs1⟩ := open_scal Try.underlying34 (by kernel_rfl) (by kernel_rfl) (hval 1 34 v1 rfl rfl) hf1
  obtain ⟨c1_0, c1_1, c1_2, rfl⟩ : ∃ b0 b1 b2, cs1 = #[b0, b1, b2] := by
    exact arr3 hsz1
  obtain ⟨n1_0, y1_0, hy1_0⟩ := hcs1 0 _ _ rfl rfl
  obtain ⟨a1_0, e1_0, -, w1_0⟩ := DataW.trod_int Try.underlying5 hy1_0
  obtain rfl : c1_0 = .int .u8 a1_0 := by simpa using e1_0
  obtain ⟨n1_1, y1_1, hy1_1⟩ := hcs1 1 _ _ rfl rfl
  obtain ⟨a1_1, e1_1, -, w1_1⟩ := DataW.trod_int Try.underlying22 hy1_1
  obtain rfl : c1_1 = .int .u32 a1_1 := by simpa using e1_1
  obtain ⟨n1_2, y1_2, hy1_2⟩ := hcs1 2 _ _ rfl rfl
  obtain ⟨u1_2, xs1_2, e1_2, o1_2, w1_2, -⟩ := rep_slice (c := 0) (by decide) Try.underlying32 (by kernel_rfl) (cells_u8 Try.underlying5) hy1_2
  obtain rfl : c1_2 = u1_2 := by simpa using e1_2
  obtain ⟨a2, rfl, rfl, rfl, w2⟩ := open_int Try.underlying3 (hval 2 3 v2 rfl rfl) h2
  obtain ⟨a3, rfl, rfl, rfl, w3⟩ := open_int Try.underlying3 (hval 3 3 v3 rfl rfl) h3
  clear hA0 hval0
  have hk0_1 : kwf .u32 a0_1 := by simpa [Lit.wf, kwf] using w0_1
  have hk0_2 : kwf .i64 a0_2 := by simpa [Lit.wf, kwf] using w0_2
  have hk1_0 : kwf .u8 a1_0 := by simpa [Lit.wf, kwf] using w1_0
  have hk1_1 : kwf .u32 a1_1 := by simpa [Lit.wf, kwf] using w1_1
  have hk2 : kwf .i64 a2 := by simpa [Lit.wf, kwf] using w2
  have hk3 : kwf .i64 a3 := by simpa [Lit.wf, kwf] using w3
  refine (calls_of_holds linkFresh_ok Try.call5 (w := W) (vals := #[.agg #[.bool a0_0, .int .u32 a0_1, .int .i64 a0_2], .agg #[.int .u8 a1_0, .int .u32 a1_1, c1_2], .int .i64 a2, .int .i64 a3]) (args := [.agg [.bool a0_0, .int .u32 a0_1, .int .i64 a0_2], .agg [.int .u8 a1_0, .int .u32 a1_1, .sl 0 xs1_2], .int .i64 a2, .int .i64 a3]) rfl (fun j v hj => ?_) ⟨hk0_1, hk0_2, hk1_0, hk1_1, hk2, hk3, rfl⟩).mono fun e W' ⟨he, bel⟩ => ?_
  · rcases j with _ | _ | _ | _ | j
    · simp at hj; subst hj; refine .agg rfl (fun j v h => ?_) (fun j v h => ?_) <;> rcases j with _ | _ | _ | j <;> simp at h <;> subst h <;> first | rfl | exact .bool | exact .int (by assumption) | assumption
    · simp at hj; subst hj; refine .agg rfl (fun j v h => ?_) (fun j v h => ?_) <;> rcases j with _ | _ | _ | j <;> simp at h <;> subst h <;> first | rfl | exact .bool | exact .int (by assumption) | assumption
    · simp at hj; subst hj; exact .int hk2
    · simp at hj; subst hj; exact .int hk3
    · simp at hj
  subst he
  exact ⟨_, rfl, _, _, _, [], _, [], hW', trodAll_mk1 (shut_bool Try.underlying4 _), (trodAll_cons_mk (Below.trod laidF (by kernel_rfl) (of_decide_eq_true (by kernel_rfl)) k0 bel lt0) (trodAll_cons_mk (Below.trod laidF (by kernel_rfl) (of_decide_eq_true (by kernel_rfl)) k1 bel lt1) (trodAll_cons_mk (shut_int Try.underlying3 w2) (trodAll_cons_mk (shut_int Try.underlying3 w3) trodAll_mk0)))), rfl, bel.frame _, fun h => by cases h⟩

theorem linkFresh_said : Rows.LinkFreshSaid :=
  OpenClaim.holds_of_wide 5 Try.f5 rfl rfl rfl rfl rfl rfl rfl ⟨rfl, rfl, rfl, rfl, rfl⟩ rfl rfl rfl rfl rfl (by kernel_rfl) Try.func5 (by kernel_rfl)
    (of_decide_eq_true (by kernel_rfl)) (by unfold Func.isWrapper; first | (rw [if_pos (by decide +kernel)]; kernel_rfl) | (rw [if_neg (by decide +kernel)]; exact ⟨rfl, rfl⟩))
    (fun os started H enc _ => linkFreshLifted os started H enc)
#print axioms linkFresh_said
end Go.Proofs.Ytpkfadgennejnaa


