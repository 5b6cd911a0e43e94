/- WireTicks, in the form for arguments of bounded bulk (..UptoSaid): a link does, in a tick and in many, what the document says; what comes in stays, and what is answered is new memory. Any bytes, doings and places within the row's bound. -/
import Derived.Test.YtkcnpemaocdnkaaWrI
import Derived.Test.YtkcnpemaocdnkaaRows
namespace Go.Proofs.Ytkcnpemaocdnkaa
open Go Go.Eng Go.Wr Go.Proofs
set_option linter.unusedVariables false
set_option maxHeartbeats 2000000 in
theorem wireTicks_vc (held : List UInt8) (ins : List UInt8) (what : Int) (what0 : (0 : Int) ≤ what) (what1 : what ≤ (255 : Int)) (p : Int) (p0 : (-9223372036854775808 : Int) ≤ p) (p1 : p ≤ (9223372036854775807 : Int)) (l : List (List UInt8)) (w : List UInt8) (a : List Int) (h01 : held.length ≤ (1048576 : Nat)) (h02 : ins.length ≤ (1048576 : Nat)) (h03 : l.length ≤ (1048576 : Nat)) (h04 : tot l ≤ (1048576 : Nat)) (h05 : w.length ≤ (1048576 : Nat)) (h06 : a.length ≤ (1048576 : Nat)) (k : AV → List (Option Blk) → List Blk → Prop) (hk : k (AV.bool true) [] []) :
  ∀ (n1 : Int),
  (n1 = (↑held.length : Int)) →
  ((-9223372036854775808 : Int) ≤ n1 ∧ n1 ≤ (9223372036854775807 : Int)) →
  ∀ (n4 : Int),
  (n4 = (↑ins.length : Int)) →
  br (bif decide (n1 > (20000 : Int)) then true else decide (n4 > (20000 : Int)))
   ((true = true) ∧
    ∀ (n6 : Int),
    (n6 = (↑w.length : Int)) →
    ∀ (n7 : Int),
    (n7 = (↑a.length : Int)) →
    (k (AV.bool true) [] []))
   ((l.length ≤ (1048576 : Nat)) ∧
    ∀ (b_8 : Bool),
    ((b_8 = false) →
     (l.length ≤ (5000 : Nat))) →
    ∀ (n10 : Int),
    (n10 = (↑w.length : Int)) →
    ∀ (n12 : Int),
    (n12 = (↑a.length : Int)) →
    br (bif bif bif false then true else b_8 then true else decide (n10 > (5000 : Int)) then true else decide (n12 > (5000 : Int)))
     ((k (AV.bool true) [] []))
     ((held.length * (1 : Nat) ≤ (140737488355328 : Nat)) ∧
      ∀ (z14 : List UInt8),
      (z14 = held) →
      (ins.length * (1 : Nat) ≤ (140737488355328 : Nat)) ∧
      ∀ (z16 : List UInt8),
      (z16 = ins) →
      (tot l ≤ (3000000 : Nat)) ∧
      (l.length ≤ (1000000 : Nat)) ∧
      ∀ (ys_18 : List (List UInt8)),
      (ys_18 = l) →
      (
       ((0 : Int) ≤ what) ∧
       (what ≤ (255 : Int))) ∧
      (
       ((-9223372036854775808 : Int) ≤ p) ∧
       (p ≤ (9223372036854775807 : Int))) ∧
      ∀ (e_20 : Int),
      ∀ (ys_21 : List UInt8),
      ∀ (us_22 : List UInt8),
      ∀ (n_23 : Nat),
      ∀ (m_24 : Nat),
      (e_20 = wE (List.take held.length (List.drop (0 : Nat) z14)).length (List.take ins.length (List.drop (0 : Nat) z16)).length what p) →
      ((e_20 = (0 : Int)) →
       (ys_21 = List.take held.length (List.drop (0 : Nat) z14) ++ wOut (List.take ins.length (List.drop (0 : Nat) z16)) what p)) →
      ((e_20 = (0 : Int)) →
       (us_22 = if what = (3 : Int) then List.take ins.length (List.drop (0 : Nat) z16) else [])) →
      ((e_20 ≠ (0 : Int)) →
       (ys_21 = []) ∧
       (us_22 = [])) →
      (ys_21.length = n_23) →
      (us_22.length = m_24) →
      (
       ((0 : Int) ≤ what) ∧
       (what ≤ (255 : Int))) ∧
      (
       ((-9223372036854775808 : Int) ≤ p) ∧
       (p ≤ (9223372036854775807 : Int))) ∧
      ∀ (e_31 : Int),
      ∀ (ys_32 : List UInt8),
      ∀ (us_33 : List UInt8),
      ∀ (n_34 : Nat),
      ∀ (m_35 : Nat),
      (e_31 = wE held.length ins.length what p) →
      ((e_31 = (0 : Int)) →
       (ys_32 = held ++ wOut ins what p)) →
      ((e_31 = (0 : Int)) →
       (us_33 = if what = (3 : Int) then ins else [])) →
      ((e_31 ≠ (0 : Int)) →
       (ys_32 = []) ∧
       (us_33 = [])) →
      (ys_32.length = n_34) →
      (us_33.length = m_35) →
      (
       ∀ (e_42 : Int),
       (e_42 = rE (List.take l.length (List.drop (0 : Nat) ys_18)) w a) →
       (e_42 ≠ (0 : Int)) →
       (
        ∀ (e_45 : Int),
        (e_45 = rE l w a) →
        (e_45 ≠ (0 : Int)) →
        br (bif bif !{ data := (List.take n_23 (List.drop (0 : Nat) ys_21)).toArray : ByteArray }.data.toList == { data := (List.take n_34 (List.drop (0 : Nat) ys_32)).toArray : ByteArray }.data.toList then true else !{ data := (List.take m_24 (List.drop (0 : Nat) us_22)).toArray : ByteArray }.data.toList == { data := (List.take m_35 (List.drop (0 : Nat) us_33)).toArray : ByteArray }.data.toList then true else e_20 != e_31)
         ((true = true) ∧
          (k (AV.bool false) [] []))
         (∀ (b_48 : Bool),
          ((eqL [] []) →
           (b_48 = true)) →
          br (bif bif false then true else !b_48 then true else e_42 != e_45)
           ((k (AV.bool false) [] []))
           ((
             ∃ (v : Int × Nat × List UInt8 × Nat × List UInt8),
             (held = held) ∧
             (ins = ins) ∧
             (l = l) ∧
             ((0 : Nat) = (0 : Nat)) ∧
             (held.length = held.length) ∧
             ((0 : Nat) = (0 : Nat)) ∧
             (ins.length = ins.length) ∧
             (List.take l.length (List.drop (0 : Nat) ys_18) = l) ∧
             ((0 : Nat) = (0 : Nat)) ∧
             (n_23 = v.snd.fst) ∧
             ((0 : Nat) = (0 : Nat)) ∧
             (m_24 = v.snd.snd.snd.fst) ∧
             ((0 : Int) = v.fst) ∧
             (z14 = held) ∧
             (z16 = ins) ∧
             (ys_21 = v.snd.snd.fst) ∧
             (us_22 = v.snd.snd.snd.snd) ∧
             (
              ((0 : Int) ≤ v.fst) ∧
              (v.fst ≤ (↑v.snd.fst : Int))) ∧
             (v.snd.snd.fst.length = v.snd.fst) ∧
             (v.snd.snd.snd.snd.length = v.snd.snd.snd.fst)) ∧
            ∀ (v_50 : Int × Nat × List UInt8 × Nat × List UInt8),
            (((0 : Int) ≤ v_50.fst ∧ v_50.fst ≤ (↑v_50.snd.fst : Int)) ∧ v_50.snd.snd.fst.length = v_50.snd.fst ∧ v_50.snd.snd.snd.snd.length = v_50.snd.snd.snd.fst) →
            ∀ (n52 : Int),
            (n52 = (↑v_50.snd.fst : Int)) →
            ((-9223372036854775808 : Int) ≤ n52 ∧ n52 ≤ (9223372036854775807 : Int)) →
            br (decide (v_50.fst < n52))
             (((0 : Int) ≤ v_50.fst) ∧
              (v_50.fst < (↑v_50.snd.fst : Int)) ∧
              ((0 : Nat) + v_50.fst.toNat < v_50.snd.snd.fst.length) ∧
              ∀ (n55 : Int),
              (n55 = (↑(v_50.snd.snd.fst.getD ((0 : Nat) + v_50.fst.toNat) (0 : UInt8)).toNat : Int)) →
              ((0 : Int) ≤ n55 ∧ n55 ≤ (255 : Int)) →
              ∀ (n58 : Int),
              (n58 = IntKind.u8.wrap (n55 + (1 : Int))) →
              ((0 : Int) ≤ n58 ∧ n58 ≤ (255 : Int)) →
              ((0 : Int) ≤ v_50.fst) ∧
              (v_50.fst < (↑v_50.snd.fst : Int)) ∧
              ((0 : Nat) + v_50.fst.toNat < v_50.snd.snd.fst.length) ∧
              ∀ (z61 : List UInt8),
              (z61 = v_50.snd.snd.fst.set ((0 : Nat) + v_50.fst.toNat) (UInt8.ofNat n58.toNat)) →
              ∀ (n63 : Int),
              (n63 = IntKind.i64.wrap (v_50.fst + (1 : Int))) →
              ((-9223372036854775808 : Int) ≤ n63 ∧ n63 ≤ (9223372036854775807 : Int)) →
              ∃ (v' : Int × Nat × List UInt8 × Nat × List UInt8),
              (held = held) ∧
              (ins = ins) ∧
              (l = l) ∧
              ((0 : Nat) = (0 : Nat)) ∧
              (held.length = held.length) ∧
              ((0 : Nat) = (0 : Nat)) ∧
              (ins.length = ins.length) ∧
              (l = l) ∧
              ((0 : Nat) = (0 : Nat)) ∧
              (v_50.snd.fst = v'.snd.fst) ∧
              ((0 : Nat) = (0 : Nat)) ∧
              (v_50.snd.snd.snd.fst = v'.snd.snd.snd.fst) ∧
              (n63 = v'.fst) ∧
              (held = held) ∧
              (ins = ins) ∧
              (z61 = v'.snd.snd.fst) ∧
              (v_50.snd.snd.snd.snd = v'.snd.snd.snd.snd) ∧
              (
               (
                ((0 : Int) ≤ v'.fst) ∧
                (v'.fst ≤ (↑v'.snd.fst : Int))) ∧
               (v'.snd.snd.fst.length = v'.snd.fst) ∧
               (v'.snd.snd.snd.snd.length = v'.snd.snd.snd.fst)) ∧
              (((↑v'.snd.fst : Int) - v'.fst).toNat < ((↑v_50.snd.fst : Int) - v_50.fst).toNat))
             ((
               ∃ (v : Int × Nat × List UInt8),
               (held = held) ∧
               (ins = ins) ∧
               (l = l) ∧
               ((0 : Nat) = (0 : Nat)) ∧
               (held.length = held.length) ∧
               ((0 : Nat) = (0 : Nat)) ∧
               (ins.length = ins.length) ∧
               (l = l) ∧
               ((0 : Nat) = (0 : Nat)) ∧
               (v_50.snd.snd.snd.fst = v.snd.fst) ∧
               ((0 : Int) = v.fst) ∧
               (held = held) ∧
               (ins = ins) ∧
               (v_50.snd.snd.snd.snd = v.snd.snd) ∧
               (
                ((0 : Int) ≤ v.fst) ∧
                (v.fst ≤ (↑v.snd.fst : Int))) ∧
               (v.snd.snd.length = v.snd.fst)) ∧
              ∀ (v_66 : Int × Nat × List UInt8),
              (((0 : Int) ≤ v_66.fst ∧ v_66.fst ≤ (↑v_66.snd.fst : Int)) ∧ v_66.snd.snd.length = v_66.snd.fst) →
              ∀ (n68 : Int),
              (n68 = (↑v_66.snd.fst : Int)) →
              ((-9223372036854775808 : Int) ≤ n68 ∧ n68 ≤ (9223372036854775807 : Int)) →
              br (decide (v_66.fst < n68))
               (((0 : Int) ≤ v_66.fst) ∧
                (v_66.fst < (↑v_66.snd.fst : Int)) ∧
                ((0 : Nat) + v_66.fst.toNat < v_66.snd.snd.length) ∧
                ∀ (n71 : Int),
                (n71 = (↑(v_66.snd.snd.getD ((0 : Nat) + v_66.fst.toNat) (0 : UInt8)).toNat : Int)) →
                ((0 : Int) ≤ n71 ∧ n71 ≤ (255 : Int)) →
                ∀ (n74 : Int),
                (n74 = IntKind.u8.wrap (n71 + (1 : Int))) →
                ((0 : Int) ≤ n74 ∧ n74 ≤ (255 : Int)) →
                ((0 : Int) ≤ v_66.fst) ∧
                (v_66.fst < (↑v_66.snd.fst : Int)) ∧
                ((0 : Nat) + v_66.fst.toNat < v_66.snd.snd.length) ∧
                ∀ (z77 : List UInt8),
                (z77 = v_66.snd.snd.set ((0 : Nat) + v_66.fst.toNat) (UInt8.ofNat n74.toNat)) →
                ∀ (n79 : Int),
                (n79 = IntKind.i64.wrap (v_66.fst + (1 : Int))) →
                ((-9223372036854775808 : Int) ≤ n79 ∧ n79 ≤ (9223372036854775807 : Int)) →
                ∃ (v' : Int × Nat × List UInt8),
                (held = held) ∧
                (ins = ins) ∧
                (l = l) ∧
                ((0 : Nat) = (0 : Nat)) ∧
                (held.length = held.length) ∧
                ((0 : Nat) = (0 : Nat)) ∧
                (ins.length = ins.length) ∧
                (l = l) ∧
                ((0 : Nat) = (0 : Nat)) ∧
                (v_66.snd.fst = v'.snd.fst) ∧
                (n79 = v'.fst) ∧
                (held = held) ∧
                (ins = ins) ∧
                (z77 = v'.snd.snd) ∧
                (
                 (
                  ((0 : Int) ≤ v'.fst) ∧
                  (v'.fst ≤ (↑v'.snd.fst : Int))) ∧
                 (v'.snd.snd.length = v'.snd.fst)) ∧
                (((↑v'.snd.fst : Int) - v'.fst).toNat < ((↑v_66.snd.fst : Int) - v_66.fst).toNat))
               (br (bif { data := (List.take held.length (List.drop (0 : Nat) held)).toArray : ByteArray }.data.toList == { data := held.toArray : ByteArray }.data.toList then { data := (List.take ins.length (List.drop (0 : Nat) ins)).toArray : ByteArray }.data.toList == { data := ins.toArray : ByteArray }.data.toList else false)
                 (∀ (b_82 : Bool),
                  ((eqL l l) →
                   (b_82 = true)) →
                  (k (AV.bool (bif true then b_82 else false)) [] []))
                 ((false = false) ∧
                  (k (AV.bool false) [] []))))))) ∧
       ((rE l w a = (0 : Int)) →
       ∀ (ys_85 : List (List UInt8)),
       (ys_85 = outs l w a l.length) →
       br (bif bif !{ data := (List.take n_23 (List.drop (0 : Nat) ys_21)).toArray : ByteArray }.data.toList == { data := (List.take n_34 (List.drop (0 : Nat) ys_32)).toArray : ByteArray }.data.toList then true else !{ data := (List.take m_24 (List.drop (0 : Nat) us_22)).toArray : ByteArray }.data.toList == { data := (List.take m_35 (List.drop (0 : Nat) us_33)).toArray : ByteArray }.data.toList then true else e_20 != e_31)
        ((true = true) ∧
         (k (AV.bool false) [] []))
        (∀ (b_87 : Bool),
         ((eqL [] (List.take l.length (List.drop (0 : Nat) ys_85))) →
          (b_87 = true)) →
         br (bif bif false then true else !b_87 then true else e_42 != (0 : Int))
          ((k (AV.bool false) [] []))
          ((
            ∃ (v : Int × Nat × List UInt8 × Nat × List UInt8),
            (held = held) ∧
            (ins = ins) ∧
            (l = l) ∧
            ((0 : Nat) = (0 : Nat)) ∧
            (held.length = held.length) ∧
            ((0 : Nat) = (0 : Nat)) ∧
            (ins.length = ins.length) ∧
            (List.take l.length (List.drop (0 : Nat) ys_18) = l) ∧
            ((0 : Nat) = (0 : Nat)) ∧
            (n_23 = v.snd.fst) ∧
            ((0 : Nat) = (0 : Nat)) ∧
            (m_24 = v.snd.snd.snd.fst) ∧
            ((0 : Int) = v.fst) ∧
            (z14 = held) ∧
            (z16 = ins) ∧
            (ys_21 = v.snd.snd.fst) ∧
            (us_22 = v.snd.snd.snd.snd) ∧
            (
             ((0 : Int) ≤ v.fst) ∧
             (v.fst ≤ (↑v.snd.fst : Int))) ∧
            (v.snd.snd.fst.length = v.snd.fst) ∧
            (v.snd.snd.snd.snd.length = v.snd.snd.snd.fst)) ∧
           ∀ (v_89 : Int × Nat × List UInt8 × Nat × List UInt8),
           (((0 : Int) ≤ v_89.fst ∧ v_89.fst ≤ (↑v_89.snd.fst : Int)) ∧ v_89.snd.snd.fst.length = v_89.snd.fst ∧ v_89.snd.snd.snd.snd.length = v_89.snd.snd.snd.fst) →
           ∀ (n91 : Int),
           (n91 = (↑v_89.snd.fst : Int)) →
           ((-9223372036854775808 : Int) ≤ n91 ∧ n91 ≤ (9223372036854775807 : Int)) →
           br (decide (v_89.fst < n91))
            (((0 : Int) ≤ v_89.fst) ∧
             (v_89.fst < (↑v_89.snd.fst : Int)) ∧
             ((0 : Nat) + v_89.fst.toNat < v_89.snd.snd.fst.length) ∧
             ∀ (n94 : Int),
             (n94 = (↑(v_89.snd.snd.fst.getD ((0 : Nat) + v_89.fst.toNat) (0 : UInt8)).toNat : Int)) →
             ((0 : Int) ≤ n94 ∧ n94 ≤ (255 : Int)) →
             ∀ (n97 : Int),
             (n97 = IntKind.u8.wrap (n94 + (1 : Int))) →
             ((0 : Int) ≤ n97 ∧ n97 ≤ (255 : Int)) →
             ((0 : Int) ≤ v_89.fst) ∧
             (v_89.fst < (↑v_89.snd.fst : Int)) ∧
             ((0 : Nat) + v_89.fst.toNat < v_89.snd.snd.fst.length) ∧
             ∀ (z100 : List UInt8),
             (z100 = v_89.snd.snd.fst.set ((0 : Nat) + v_89.fst.toNat) (UInt8.ofNat n97.toNat)) →
             ∀ (n102 : Int),
             (n102 = IntKind.i64.wrap (v_89.fst + (1 : Int))) →
             ((-9223372036854775808 : Int) ≤ n102 ∧ n102 ≤ (9223372036854775807 : Int)) →
             ∃ (v' : Int × Nat × List UInt8 × Nat × List UInt8),
             (held = held) ∧
             (ins = ins) ∧
             (l = l) ∧
             ((0 : Nat) = (0 : Nat)) ∧
             (held.length = held.length) ∧
             ((0 : Nat) = (0 : Nat)) ∧
             (ins.length = ins.length) ∧
             (l = l) ∧
             ((0 : Nat) = (0 : Nat)) ∧
             (v_89.snd.fst = v'.snd.fst) ∧
             ((0 : Nat) = (0 : Nat)) ∧
             (v_89.snd.snd.snd.fst = v'.snd.snd.snd.fst) ∧
             (n102 = v'.fst) ∧
             (held = held) ∧
             (ins = ins) ∧
             (z100 = v'.snd.snd.fst) ∧
             (v_89.snd.snd.snd.snd = v'.snd.snd.snd.snd) ∧
             (
              (
               ((0 : Int) ≤ v'.fst) ∧
               (v'.fst ≤ (↑v'.snd.fst : Int))) ∧
              (v'.snd.snd.fst.length = v'.snd.fst) ∧
              (v'.snd.snd.snd.snd.length = v'.snd.snd.snd.fst)) ∧
             (((↑v'.snd.fst : Int) - v'.fst).toNat < ((↑v_89.snd.fst : Int) - v_89.fst).toNat))
            ((
              ∃ (v : Int × Nat × List UInt8),
              (held = held) ∧
              (ins = ins) ∧
              (l = l) ∧
              ((0 : Nat) = (0 : Nat)) ∧
              (held.length = held.length) ∧
              ((0 : Nat) = (0 : Nat)) ∧
              (ins.length = ins.length) ∧
              (l = l) ∧
              ((0 : Nat) = (0 : Nat)) ∧
              (v_89.snd.snd.snd.fst = v.snd.fst) ∧
              ((0 : Int) = v.fst) ∧
              (held = held) ∧
              (ins = ins) ∧
              (v_89.snd.snd.snd.snd = v.snd.snd) ∧
              (
               ((0 : Int) ≤ v.fst) ∧
               (v.fst ≤ (↑v.snd.fst : Int))) ∧
              (v.snd.snd.length = v.snd.fst)) ∧
             ∀ (v_105 : Int × Nat × List UInt8),
             (((0 : Int) ≤ v_105.fst ∧ v_105.fst ≤ (↑v_105.snd.fst : Int)) ∧ v_105.snd.snd.length = v_105.snd.fst) →
             ∀ (n107 : Int),
             (n107 = (↑v_105.snd.fst : Int)) →
             ((-9223372036854775808 : Int) ≤ n107 ∧ n107 ≤ (9223372036854775807 : Int)) →
             br (decide (v_105.fst < n107))
              (((0 : Int) ≤ v_105.fst) ∧
               (v_105.fst < (↑v_105.snd.fst : Int)) ∧
               ((0 : Nat) + v_105.fst.toNat < v_105.snd.snd.length) ∧
               ∀ (n110 : Int),
               (n110 = (↑(v_105.snd.snd.getD ((0 : Nat) + v_105.fst.toNat) (0 : UInt8)).toNat : Int)) →
               ((0 : Int) ≤ n110 ∧ n110 ≤ (255 : Int)) →
               ∀ (n113 : Int),
               (n113 = IntKind.u8.wrap (n110 + (1 : Int))) →
               ((0 : Int) ≤ n113 ∧ n113 ≤ (255 : Int)) →
               ((0 : Int) ≤ v_105.fst) ∧
               (v_105.fst < (↑v_105.snd.fst : Int)) ∧
               ((0 : Nat) + v_105.fst.toNat < v_105.snd.snd.length) ∧
               ∀ (z116 : List UInt8),
               (z116 = v_105.snd.snd.set ((0 : Nat) + v_105.fst.toNat) (UInt8.ofNat n113.toNat)) →
               ∀ (n118 : Int),
               (n118 = IntKind.i64.wrap (v_105.fst + (1 : Int))) →
               ((-9223372036854775808 : Int) ≤ n118 ∧ n118 ≤ (9223372036854775807 : Int)) →
               ∃ (v' : Int × Nat × List UInt8),
               (held = held) ∧
               (ins = ins) ∧
               (l = l) ∧
               ((0 : Nat) = (0 : Nat)) ∧
               (held.length = held.length) ∧
               ((0 : Nat) = (0 : Nat)) ∧
               (ins.length = ins.length) ∧
               (l = l) ∧
               ((0 : Nat) = (0 : Nat)) ∧
               (v_105.snd.fst = v'.snd.fst) ∧
               (n118 = v'.fst) ∧
               (held = held) ∧
               (ins = ins) ∧
               (z116 = v'.snd.snd) ∧
               (
                (
                 ((0 : Int) ≤ v'.fst) ∧
                 (v'.fst ≤ (↑v'.snd.fst : Int))) ∧
                (v'.snd.snd.length = v'.snd.fst)) ∧
               (((↑v'.snd.fst : Int) - v'.fst).toNat < ((↑v_105.snd.fst : Int) - v_105.fst).toNat))
              (br (bif { data := (List.take held.length (List.drop (0 : Nat) held)).toArray : ByteArray }.data.toList == { data := held.toArray : ByteArray }.data.toList then { data := (List.take ins.length (List.drop (0 : Nat) ins)).toArray : ByteArray }.data.toList == { data := ins.toArray : ByteArray }.data.toList else false)
                (∀ (b_121 : Bool),
                 ((eqL l l) →
                  (b_121 = true)) →
                 (k (AV.bool (bif true then b_121 else false)) [] []))
                ((false = false) ∧
                 (k (AV.bool false) [] [])))))))) ∧
      ((rE (List.take l.length (List.drop (0 : Nat) ys_18)) w a = (0 : Int)) →
      ∀ (ys_124 : List (List UInt8)),
      (ys_124 = outs (List.take l.length (List.drop (0 : Nat) ys_18)) w a (List.take l.length (List.drop (0 : Nat) ys_18)).length) →
      (
       ∀ (e_126 : Int),
       (e_126 = rE l w a) →
       (e_126 ≠ (0 : Int)) →
       br (bif bif !{ data := (List.take n_23 (List.drop (0 : Nat) ys_21)).toArray : ByteArray }.data.toList == { data := (List.take n_34 (List.drop (0 : Nat) ys_32)).toArray : ByteArray }.data.toList then true else !{ data := (List.take m_24 (List.drop (0 : Nat) us_22)).toArray : ByteArray }.data.toList == { data := (List.take m_35 (List.drop (0 : Nat) us_33)).toArray : ByteArray }.data.toList then true else e_20 != e_31)
        ((true = true) ∧
         (k (AV.bool false) [] []))
        (∀ (b_129 : Bool),
         ((eqL (List.take (List.take l.length (List.drop (0 : Nat) ys_18)).length (List.drop (0 : Nat) ys_124)) []) →
          (b_129 = true)) →
         br (bif bif false then true else !b_129 then true else (0 : Int) != e_126)
          ((k (AV.bool false) [] []))
          ((
            ∃ (v : Int × Nat × List UInt8 × Nat × List UInt8),
            (held = held) ∧
            (ins = ins) ∧
            (l = l) ∧
            ((0 : Nat) = (0 : Nat)) ∧
            (held.length = held.length) ∧
            ((0 : Nat) = (0 : Nat)) ∧
            (ins.length = ins.length) ∧
            (List.take l.length (List.drop (0 : Nat) ys_18) = l) ∧
            ((0 : Nat) = (0 : Nat)) ∧
            (n_23 = v.snd.fst) ∧
            ((0 : Nat) = (0 : Nat)) ∧
            (m_24 = v.snd.snd.snd.fst) ∧
            ((0 : Int) = v.fst) ∧
            (z14 = held) ∧
            (z16 = ins) ∧
            (ys_21 = v.snd.snd.fst) ∧
            (us_22 = v.snd.snd.snd.snd) ∧
            (
             ((0 : Int) ≤ v.fst) ∧
             (v.fst ≤ (↑v.snd.fst : Int))) ∧
            (v.snd.snd.fst.length = v.snd.fst) ∧
            (v.snd.snd.snd.snd.length = v.snd.snd.snd.fst)) ∧
           ∀ (v_131 : Int × Nat × List UInt8 × Nat × List UInt8),
           (((0 : Int) ≤ v_131.fst ∧ v_131.fst ≤ (↑v_131.snd.fst : Int)) ∧ v_131.snd.snd.fst.length = v_131.snd.fst ∧ v_131.snd.snd.snd.snd.length = v_131.snd.snd.snd.fst) →
           ∀ (n133 : Int),
           (n133 = (↑v_131.snd.fst : Int)) →
           ((-9223372036854775808 : Int) ≤ n133 ∧ n133 ≤ (9223372036854775807 : Int)) →
           br (decide (v_131.fst < n133))
            (((0 : Int) ≤ v_131.fst) ∧
             (v_131.fst < (↑v_131.snd.fst : Int)) ∧
             ((0 : Nat) + v_131.fst.toNat < v_131.snd.snd.fst.length) ∧
             ∀ (n136 : Int),
             (n136 = (↑(v_131.snd.snd.fst.getD ((0 : Nat) + v_131.fst.toNat) (0 : UInt8)).toNat : Int)) →
             ((0 : Int) ≤ n136 ∧ n136 ≤ (255 : Int)) →
             ∀ (n139 : Int),
             (n139 = IntKind.u8.wrap (n136 + (1 : Int))) →
             ((0 : Int) ≤ n139 ∧ n139 ≤ (255 : Int)) →
             ((0 : Int) ≤ v_131.fst) ∧
             (v_131.fst < (↑v_131.snd.fst : Int)) ∧
             ((0 : Nat) + v_131.fst.toNat < v_131.snd.snd.fst.length) ∧
             ∀ (z142 : List UInt8),
             (z142 = v_131.snd.snd.fst.set ((0 : Nat) + v_131.fst.toNat) (UInt8.ofNat n139.toNat)) →
             ∀ (n144 : Int),
             (n144 = IntKind.i64.wrap (v_131.fst + (1 : Int))) →
             ((-9223372036854775808 : Int) ≤ n144 ∧ n144 ≤ (9223372036854775807 : Int)) →
             ∃ (v' : Int × Nat × List UInt8 × Nat × List UInt8),
             (held = held) ∧
             (ins = ins) ∧
             (l = l) ∧
             ((0 : Nat) = (0 : Nat)) ∧
             (held.length = held.length) ∧
             ((0 : Nat) = (0 : Nat)) ∧
             (ins.length = ins.length) ∧
             (l = l) ∧
             ((0 : Nat) = (0 : Nat)) ∧
             (v_131.snd.fst = v'.snd.fst) ∧
             ((0 : Nat) = (0 : Nat)) ∧
             (v_131.snd.snd.snd.fst = v'.snd.snd.snd.fst) ∧
             (n144 = v'.fst) ∧
             (held = held) ∧
             (ins = ins) ∧
             (z142 = v'.snd.snd.fst) ∧
             (v_131.snd.snd.snd.snd = v'.snd.snd.snd.snd) ∧
             (
              (
               ((0 : Int) ≤ v'.fst) ∧
               (v'.fst ≤ (↑v'.snd.fst : Int))) ∧
              (v'.snd.snd.fst.length = v'.snd.fst) ∧
              (v'.snd.snd.snd.snd.length = v'.snd.snd.snd.fst)) ∧
             (((↑v'.snd.fst : Int) - v'.fst).toNat < ((↑v_131.snd.fst : Int) - v_131.fst).toNat))
            ((
              ∃ (v : Int × Nat × List UInt8),
              (held = held) ∧
              (ins = ins) ∧
              (l = l) ∧
              ((0 : Nat) = (0 : Nat)) ∧
              (held.length = held.length) ∧
              ((0 : Nat) = (0 : Nat)) ∧
              (ins.length = ins.length) ∧
              (l = l) ∧
              ((0 : Nat) = (0 : Nat)) ∧
              (v_131.snd.snd.snd.fst = v.snd.fst) ∧
              ((0 : Int) = v.fst) ∧
              (held = held) ∧
              (ins = ins) ∧
              (v_131.snd.snd.snd.snd = v.snd.snd) ∧
              (
               ((0 : Int) ≤ v.fst) ∧
               (v.fst ≤ (↑v.snd.fst : Int))) ∧
              (v.snd.snd.length = v.snd.fst)) ∧
             ∀ (v_147 : Int × Nat × List UInt8),
             (((0 : Int) ≤ v_147.fst ∧ v_147.fst ≤ (↑v_147.snd.fst : Int)) ∧ v_147.snd.snd.length = v_147.snd.fst) →
             ∀ (n149 : Int),
             (n149 = (↑v_147.snd.fst : Int)) →
             ((-9223372036854775808 : Int) ≤ n149 ∧ n149 ≤ (9223372036854775807 : Int)) →
             br (decide (v_147.fst < n149))
              (((0 : Int) ≤ v_147.fst) ∧
               (v_147.fst < (↑v_147.snd.fst : Int)) ∧
               ((0 : Nat) + v_147.fst.toNat < v_147.snd.snd.length) ∧
               ∀ (n152 : Int),
               (n152 = (↑(v_147.snd.snd.getD ((0 : Nat) + v_147.fst.toNat) (0 : UInt8)).toNat : Int)) →
               ((0 : Int) ≤ n152 ∧ n152 ≤ (255 : Int)) →
               ∀ (n155 : Int),
               (n155 = IntKind.u8.wrap (n152 + (1 : Int))) →
               ((0 : Int) ≤ n155 ∧ n155 ≤ (255 : Int)) →
               ((0 : Int) ≤ v_147.fst) ∧
               (v_147.fst < (↑v_147.snd.fst : Int)) ∧
               ((0 : Nat) + v_147.fst.toNat < v_147.snd.snd.length) ∧
               ∀ (z158 : List UInt8),
               (z158 = v_147.snd.snd.set ((0 : Nat) + v_147.fst.toNat) (UInt8.ofNat n155.toNat)) →
               ∀ (n160 : Int),
               (n160 = IntKind.i64.wrap (v_147.fst + (1 : Int))) →
               ((-9223372036854775808 : Int) ≤ n160 ∧ n160 ≤ (9223372036854775807 : Int)) →
               ∃ (v' : Int × Nat × List UInt8),
               (held = held) ∧
               (ins = ins) ∧
               (l = l) ∧
               ((0 : Nat) = (0 : Nat)) ∧
               (held.length = held.length) ∧
               ((0 : Nat) = (0 : Nat)) ∧
               (ins.length = ins.length) ∧
               (l = l) ∧
               ((0 : Nat) = (0 : Nat)) ∧
               (v_147.snd.fst = v'.snd.fst) ∧
               (n160 = v'.fst) ∧
               (held = held) ∧
               (ins = ins) ∧
               (z158 = v'.snd.snd) ∧
               (
                (
                 ((0 : Int) ≤ v'.fst) ∧
                 (v'.fst ≤ (↑v'.snd.fst : Int))) ∧
                (v'.snd.snd.length = v'.snd.fst)) ∧
               (((↑v'.snd.fst : Int) - v'.fst).toNat < ((↑v_147.snd.fst : Int) - v_147.fst).toNat))
              (br (bif { data := (List.take held.length (List.drop (0 : Nat) held)).toArray : ByteArray }.data.toList == { data := held.toArray : ByteArray }.data.toList then { data := (List.take ins.length (List.drop (0 : Nat) ins)).toArray : ByteArray }.data.toList == { data := ins.toArray : ByteArray }.data.toList else false)
                (∀ (b_163 : Bool),
                 ((eqL l l) →
                  (b_163 = true)) →
                 (k (AV.bool (bif true then b_163 else false)) [] []))
                ((false = false) ∧
                 (k (AV.bool false) [] []))))))) ∧
      ((rE l w a = (0 : Int)) →
      ∀ (ys_166 : List (List UInt8)),
      (ys_166 = outs l w a l.length) →
      br (bif bif !{ data := (List.take n_23 (List.drop (0 : Nat) ys_21)).toArray : ByteArray }.data.toList == { data := (List.take n_34 (List.drop (0 : Nat) ys_32)).toArray : ByteArray }.data.toList then true else !{ data := (List.take m_24 (List.drop (0 : Nat) us_22)).toArray : ByteArray }.data.toList == { data := (List.take m_35 (List.drop (0 : Nat) us_33)).toArray : ByteArray }.data.toList then true else e_20 != e_31)
       ((true = true) ∧
        (k (AV.bool false) [] []))
       (∀ (b_168 : Bool),
        ((eqL (List.take (List.take l.length (List.drop (0 : Nat) ys_18)).length (List.drop (0 : Nat) ys_124)) (List.take l.length (List.drop (0 : Nat) ys_166))) →
         (b_168 = true)) →
        br (bif bif false then true else !b_168 then true else (0 : Int) != (0 : Int))
         ((k (AV.bool false) [] []))
         ((
           ∃ (v : Int × Nat × List UInt8 × Nat × List UInt8),
           (held = held) ∧
           (ins = ins) ∧
           (l = l) ∧
           ((0 : Nat) = (0 : Nat)) ∧
           (held.length = held.length) ∧
           ((0 : Nat) = (0 : Nat)) ∧
           (ins.length = ins.length) ∧
           (List.take l.length (List.drop (0 : Nat) ys_18) = l) ∧
           ((0 : Nat) = (0 : Nat)) ∧
           (n_23 = v.snd.fst) ∧
           ((0 : Nat) = (0 : Nat)) ∧
           (m_24 = v.snd.snd.snd.fst) ∧
           ((0 : Int) = v.fst) ∧
           (z14 = held) ∧
           (z16 = ins) ∧
           (ys_21 = v.snd.snd.fst) ∧
           (us_22 = v.snd.snd.snd.snd) ∧
           (
            ((0 : Int) ≤ v.fst) ∧
            (v.fst ≤ (↑v.snd.fst : Int))) ∧
           (v.snd.snd.fst.length = v.snd.fst) ∧
           (v.snd.snd.snd.snd.length = v.snd.snd.snd.fst)) ∧
          ∀ (v_170 : Int × Nat × List UInt8 × Nat × List UInt8),
          (((0 : Int) ≤ v_170.fst ∧ v_170.fst ≤ (↑v_170.snd.fst : Int)) ∧ v_170.snd.snd.fst.length = v_170.snd.fst ∧ v_170.snd.snd.snd.snd.length = v_170.snd.snd.snd.fst) →
          ∀ (n172 : Int),
          (n172 = (↑v_170.snd.fst : Int)) →
          ((-9223372036854775808 : Int) ≤ n172 ∧ n172 ≤ (9223372036854775807 : Int)) →
          br (decide (v_170.fst < n172))
           (((0 : Int) ≤ v_170.fst) ∧
            (v_170.fst < (↑v_170.snd.fst : Int)) ∧
            ((0 : Nat) + v_170.fst.toNat < v_170.snd.snd.fst.length) ∧
            ∀ (n175 : Int),
            (n175 = (↑(v_170.snd.snd.fst.getD ((0 : Nat) + v_170.fst.toNat) (0 : UInt8)).toNat : Int)) →
            ((0 : Int) ≤ n175 ∧ n175 ≤ (255 : Int)) →
            ∀ (n178 : Int),
            (n178 = IntKind.u8.wrap (n175 + (1 : Int))) →
            ((0 : Int) ≤ n178 ∧ n178 ≤ (255 : Int)) →
            ((0 : Int) ≤ v_170.fst) ∧
            (v_170.fst < (↑v_170.snd.fst : Int)) ∧
            ((0 : Nat) + v_170.fst.toNat < v_170.snd.snd.fst.length) ∧
            ∀ (z181 : List UInt8),
            (z181 = v_170.snd.snd.fst.set ((0 : Nat) + v_170.fst.toNat) (UInt8.ofNat n178.toNat)) →
            ∀ (n183 : Int),
            (n183 = IntKind.i64.wrap (v_170.fst + (1 : Int))) →
            ((-9223372036854775808 : Int) ≤ n183 ∧ n183 ≤ (9223372036854775807 : Int)) →
            ∃ (v' : Int × Nat × List UInt8 × Nat × List UInt8),
            (held = held) ∧
            (ins = ins) ∧
            (l = l) ∧
            ((0 : Nat) = (0 : Nat)) ∧
            (held.length = held.length) ∧
            ((0 : Nat) = (0 : Nat)) ∧
            (ins.length = ins.length) ∧
            (l = l) ∧
            ((0 : Nat) = (0 : Nat)) ∧
            (v_170.snd.fst = v'.snd.fst) ∧
            ((0 : Nat) = (0 : Nat)) ∧
            (v_170.snd.snd.snd.fst = v'.snd.snd.snd.fst) ∧
            (n183 = v'.fst) ∧
            (held = held) ∧
            (ins = ins) ∧
            (z181 = v'.snd.snd.fst) ∧
            (v_170.snd.snd.snd.snd = v'.snd.snd.snd.snd) ∧
            (
             (
              ((0 : Int) ≤ v'.fst) ∧
              (v'.fst ≤ (↑v'.snd.fst : Int))) ∧
             (v'.snd.snd.fst.length = v'.snd.fst) ∧
             (v'.snd.snd.snd.snd.length = v'.snd.snd.snd.fst)) ∧
            (((↑v'.snd.fst : Int) - v'.fst).toNat < ((↑v_170.snd.fst : Int) - v_170.fst).toNat))
           ((
             ∃ (v : Int × Nat × List UInt8),
             (held = held) ∧
             (ins = ins) ∧
             (l = l) ∧
             ((0 : Nat) = (0 : Nat)) ∧
             (held.length = held.length) ∧
             ((0 : Nat) = (0 : Nat)) ∧
             (ins.length = ins.length) ∧
             (l = l) ∧
             ((0 : Nat) = (0 : Nat)) ∧
             (v_170.snd.snd.snd.fst = v.snd.fst) ∧
             ((0 : Int) = v.fst) ∧
             (held = held) ∧
             (ins = ins) ∧
             (v_170.snd.snd.snd.snd = v.snd.snd) ∧
             (
              ((0 : Int) ≤ v.fst) ∧
              (v.fst ≤ (↑v.snd.fst : Int))) ∧
             (v.snd.snd.length = v.snd.fst)) ∧
            ∀ (v_186 : Int × Nat × List UInt8),
            (((0 : Int) ≤ v_186.fst ∧ v_186.fst ≤ (↑v_186.snd.fst : Int)) ∧ v_186.snd.snd.length = v_186.snd.fst) →
            ∀ (n188 : Int),
            (n188 = (↑v_186.snd.fst : Int)) →
            ((-9223372036854775808 : Int) ≤ n188 ∧ n188 ≤ (9223372036854775807 : Int)) →
            br (decide (v_186.fst < n188))
             (((0 : Int) ≤ v_186.fst) ∧
              (v_186.fst < (↑v_186.snd.fst : Int)) ∧
              ((0 : Nat) + v_186.fst.toNat < v_186.snd.snd.length) ∧
              ∀ (n191 : Int),
              (n191 = (↑(v_186.snd.snd.getD ((0 : Nat) + v_186.fst.toNat) (0 : UInt8)).toNat : Int)) →
              ((0 : Int) ≤ n191 ∧ n191 ≤ (255 : Int)) →
              ∀ (n194 : Int),
              (n194 = IntKind.u8.wrap (n191 + (1 : Int))) →
              ((0 : Int) ≤ n194 ∧ n194 ≤ (255 : Int)) →
              ((0 : Int) ≤ v_186.fst) ∧
              (v_186.fst < (↑v_186.snd.fst : Int)) ∧
              ((0 : Nat) + v_186.fst.toNat < v_186.snd.snd.length) ∧
              ∀ (z197 : List UInt8),
              (z197 = v_186.snd.snd.set ((0 : Nat) + v_186.fst.toNat) (UInt8.ofNat n194.toNat)) →
              ∀ (n199 : Int),
              (n199 = IntKind.i64.wrap (v_186.fst + (1 : Int))) →
              ((-9223372036854775808 : Int) ≤ n199 ∧ n199 ≤ (9223372036854775807 : Int)) →
              ∃ (v' : Int × Nat × List UInt8),
              (held = held) ∧
              (ins = ins) ∧
              (l = l) ∧
              ((0 : Nat) = (0 : Nat)) ∧
              (held.length = held.length) ∧
              ((0 : Nat) = (0 : Nat)) ∧
              (ins.length = ins.length) ∧
              (l = l) ∧
              ((0 : Nat) = (0 : Nat)) ∧
              (v_186.snd.fst = v'.snd.fst) ∧
              (n199 = v'.fst) ∧
              (held = held) ∧
              (ins = ins) ∧
              (z197 = v'.snd.snd) ∧
              (
               (
                ((0 : Int) ≤ v'.fst) ∧
                (v'.fst ≤ (↑v'.snd.fst : Int))) ∧
               (v'.snd.snd.length = v'.snd.fst)) ∧
              (((↑v'.snd.fst : Int) - v'.fst).toNat < ((↑v_186.snd.fst : Int) - v_186.fst).toNat))
             (br (bif { data := (List.take held.length (List.drop (0 : Nat) held)).toArray : ByteArray }.data.toList == { data := held.toArray : ByteArray }.data.toList then { data := (List.take ins.length (List.drop (0 : Nat) ins)).toArray : ByteArray }.data.toList == { data := ins.toArray : ByteArray }.data.toList else false)
               (∀ (b_202 : Bool),
                ((eqL l l) →
                 (b_202 = true)) →
                (k (AV.bool (bif true then b_202 else false)) [] []))
               ((false = false) ∧
                (k (AV.bool false) [] [])))))))))) := by
  intro n1
  intro q1 -- n1 = (↑held.length : Int)
  intro ⟨l1, u1⟩ -- (-9223372036854775808 : Int) ≤ n1 ∧ n1 ≤ (9223372036854775807 : Int)
  intro n4
  intro q4 -- n4 = (↑ins.length : Int)
  refine br_intro (fun c1 => ?_) (fun c1 => ?_) -- bif decide (n1 > (20000 : Int)) then true else decide (n4 > (20000 : Int))
  · -- yes
    simp at c1 -- (20000 : Int) < n1 ∨ (20000 : Int) < n4
    refine ⟨by with_reducible rfl, ?_⟩ -- true = true
    intro n6
    intro q6 -- n6 = (↑w.length : Int)
    intro n7
    intro q7 -- n7 = (↑a.length : Int)
    exact by exact hk -- k (AV.bool true) [] []
  · -- no
    simp at c1 -- n1 ≤ (20000 : Int) ∧ n4 ≤ (20000 : Int)
    refine ⟨by assumption, ?_⟩ -- l.length ≤ (1048576 : Nat)
    intro b_8
    intro h2 -- b_8 = false → l.length ≤ (5000 : Nat)
    intro n10
    intro q10 -- n10 = (↑w.length : Int)
    intro n12
    intro q12 -- n12 = (↑a.length : Int)
    refine br_intro (fun c3 => ?_) (fun c3 => ?_) -- bif bif bif false then true else b_8 then true else decide (n10 > (5000 : Int)) then true else decide (n12 > (5000 : Int))
    · -- yes
      simp at c3 -- (b_8 = true ∨ (5000 : Int) < n10) ∨ (5000 : Int) < n12
      exact by exact hk -- k (AV.bool true) [] []
    · -- no
      simp at c3 -- (b_8 = false ∧ n10 ≤ (5000 : Int)) ∧ n12 ≤ (5000 : Int)
      refine ⟨by first | omega | (dsimp only; omega), ?_⟩ -- held.length * (1 : Nat) ≤ (140737488355328 : Nat)
      intro z14
      intro qz14 -- z14 = held
      refine ⟨by first | omega | (dsimp only; omega), ?_⟩ -- ins.length * (1 : Nat) ≤ (140737488355328 : Nat)
      intro z16
      intro qz16 -- z16 = ins
      refine ⟨by first | omega | (dsimp only; omega), ?_⟩ -- tot l ≤ (3000000 : Nat)
      have h4 : l.length ≤ (1000000 : Nat) := by
        have := h2 c3.1.1
        omega
      refine ⟨h4, ?_⟩
      intro ys_18
      intro h5 -- ys_18 = l
      refine ⟨by exact ⟨by assumption, by assumption⟩, ?_⟩ -- (0 : Int) ≤ what ∧ what ≤ (255 : Int)
      refine ⟨by exact ⟨by assumption, by assumption⟩, ?_⟩ -- (-9223372036854775808 : Int) ≤ p ∧ p ≤ (9223372036854775807 : Int)
      intro e_20
      intro ys_21
      intro us_22
      intro n_23
      intro m_24
      intro h6 -- e_20 = wE (List.take held.length (List.drop (0 : Nat) z14)).length (List.take ins.length (List.drop (0 : Nat) z16)).length what p
      intro h7 -- e_20 = (0 : Int) → ys_21 = List.take held.length (List.drop (0 : Nat) z14) ++ wOut (List.take ins.length (List.drop (0 : Nat) z16)) what p
      intro h8 -- e_20 = (0 : Int) → us_22 = if what = (3 : Int) then List.take ins.length (List.drop (0 : Nat) z16) else []
      intro h9 -- e_20 ≠ (0 : Int) → ys_21 = [] ∧ us_22 = []
      intro h10 -- ys_21.length = n_23
      intro h11 -- us_22.length = m_24
      refine ⟨by exact ⟨by assumption, by assumption⟩, ?_⟩ -- (0 : Int) ≤ what ∧ what ≤ (255 : Int)
      refine ⟨by exact ⟨by assumption, by assumption⟩, ?_⟩ -- (-9223372036854775808 : Int) ≤ p ∧ p ≤ (9223372036854775807 : Int)
      intro e_31
      intro ys_32
      intro us_33
      intro n_34
      intro m_35
      intro h12 -- e_31 = wE held.length ins.length what p
      intro h13 -- e_31 = (0 : Int) → ys_32 = held ++ wOut ins what p
      intro h14 -- e_31 = (0 : Int) → us_33 = if what = (3 : Int) then ins else []
      intro h15 -- e_31 ≠ (0 : Int) → ys_32 = [] ∧ us_33 = []
      intro h16 -- ys_32.length = n_34
      intro h17 -- us_33.length = m_35
      refine ⟨?_, ?_⟩
      · -- left
        intro e_42
        intro h18 -- e_42 = rE (List.take l.length (List.drop (0 : Nat) ys_18)) w a
        intro h19 -- e_42 ≠ (0 : Int)
        refine ⟨?_, ?_⟩
        · -- left
          intro e_45
          intro h20 -- e_45 = rE l w a
          intro h21 -- e_45 ≠ (0 : Int)
          refine br_intro (fun c22 => ?_) (fun c22 => ?_) -- bif bif !{ data := (List.take n_23 (List.drop (0 : Nat) ys_21)).toArray : ByteArray }.data.toList == { data := (List.take n_34 (List.drop (0 : Nat) ys_32)).toArray : ByteArray }.data.toList then true else !{ data := (List.take m_24 (List.drop (0 : Nat) us_22)).toArray : ByteArray }.data.toList == { data := (List.take m_35 (List.drop (0 : Nat) us_33)).toArray : ByteArray }.data.toList then true else e_20 != e_31
          · -- yes
            simp at c22 -- (¬List.take n_23 ys_21 = List.take n_34 ys_32 ∨ ¬List.take m_24 us_22 = List.take m_35 us_33) ∨ ¬e_20 = e_31
            refine ⟨by with_reducible rfl, ?_⟩ -- true = true
            -- k (AV.bool false) [] []
            exfalso
            simp only [qz14, qz16, List.drop_zero, List.take_length] at h6 h7 h8
            have A := same_next h6 h7 h8 h9 h12 h13 h14 h15
            rcases c22 with (c | c) | c
            · exact c (by rw [← h10, ← h16, A.1])
            · exact c (by rw [← h11, ← h17, A.2.1])
            · exact c A.2.2
          · -- no
            simp at c22 -- (List.take n_23 ys_21 = List.take n_34 ys_32 ∧ List.take m_24 us_22 = List.take m_35 us_33) ∧ e_20 = e_31
            intro b_48
            intro h23 -- eqL [] [] → b_48 = true
            refine br_intro (fun c24 => ?_) (fun c24 => ?_) -- bif bif false then true else !b_48 then true else e_42 != e_45
            · -- yes
              simp at c24 -- b_48 = false ∨ ¬e_42 = e_45
              -- k (AV.bool false) [] []
              exfalso
              have tk : List.take l.length (List.drop 0 ys_18) = l := by rw [h5, List.drop_zero, List.take_length]
              rcases c24 with c | c
              · rw [h23 ⟨rfl⟩] at c; cases c
              · exact c (by rw [h18, h20, tk])
            · -- no
              simp at c24 -- b_48 = true ∧ e_42 = e_45
              refine ⟨?_, ?_⟩
              · -- left
                refine ⟨((0 : Int), n_23, ys_21, m_24, us_22), ?_⟩
                refine ⟨by first | with_reducible rfl | rfl, ?_⟩ -- held = held
                refine ⟨by first | with_reducible rfl | rfl, ?_⟩ -- ins = ins
                refine ⟨by first | with_reducible rfl | rfl, ?_⟩ -- l = l
                refine ⟨by first | with_reducible rfl | rfl, ?_⟩ -- (0 : Nat) = (0 : Nat)
                refine ⟨by first | with_reducible rfl | rfl, ?_⟩ -- held.length = held.length
                refine ⟨by first | with_reducible rfl | rfl, ?_⟩ -- (0 : Nat) = (0 : Nat)
                refine ⟨by first | with_reducible rfl | rfl, ?_⟩ -- ins.length = ins.length
                have h25 : List.take l.length (List.drop (0 : Nat) ys_18) = l := by
                  have tk : List.take l.length (List.drop 0 ys_18) = l := by rw [h5, List.drop_zero, List.take_length]
                  exact tk
                refine ⟨h25, ?_⟩
                refine ⟨by first | with_reducible rfl | rfl, ?_⟩ -- (0 : Nat) = (0 : Nat)
                refine ⟨by first | with_reducible rfl | rfl, ?_⟩ -- n_23 = n_23
                refine ⟨by first | with_reducible rfl | rfl, ?_⟩ -- (0 : Nat) = (0 : Nat)
                refine ⟨by first | with_reducible rfl | rfl, ?_⟩ -- m_24 = m_24
                refine ⟨by first | with_reducible rfl | rfl, ?_⟩ -- (0 : Int) = (0 : Int)
                refine ⟨by show z14 = held; assumption, ?_⟩ -- z14 = held
                refine ⟨by show z16 = ins; assumption, ?_⟩ -- z16 = ins
                refine ⟨by first | with_reducible rfl | rfl, ?_⟩ -- ys_21 = ys_21
                refine ⟨by first | with_reducible rfl | rfl, ?_⟩ -- us_22 = us_22
                refine ⟨by first | omega | (dsimp only; omega), ?_⟩ -- (0 : Int) ≤ (0 : Int) ∧ (0 : Int) ≤ (↑n_23 : Int)
                refine ⟨by show ys_21.length = n_23; assumption, ?_⟩ -- ys_21.length = n_23
                exact by show us_22.length = m_24; assumption -- us_22.length = m_24
              intro v_50
              intro h26 -- ((0 : Int) ≤ v_50.fst ∧ v_50.fst ≤ (↑v_50.snd.fst : Int)) ∧ v_50.snd.snd.fst.length = v_50.snd.fst ∧ v_50.snd.snd.snd.snd.length = v_50.snd.snd.snd.fst
              intro n52
              intro q52 -- n52 = (↑v_50.snd.fst : Int)
              intro ⟨l52, u52⟩ -- (-9223372036854775808 : Int) ≤ n52 ∧ n52 ≤ (9223372036854775807 : Int)
              refine brd (fun c27 => ?_) (fun c27 => ?_) -- decide (v_50.fst < n52)
              · -- yes
                refine ⟨by first | omega | (dsimp only; omega), ?_⟩ -- (0 : Int) ≤ v_50.fst
                refine ⟨by first | omega | (dsimp only; omega), ?_⟩ -- v_50.fst < (↑v_50.snd.fst : Int)
                refine ⟨by first | omega | (dsimp only; omega), ?_⟩ -- (0 : Nat) + v_50.fst.toNat < v_50.snd.snd.fst.length
                intro n55
                intro q55 -- n55 = (↑(v_50.snd.snd.fst.getD ((0 : Nat) + v_50.fst.toNat) (0 : UInt8)).toNat : Int)
                intro ⟨l55, u55⟩ -- (0 : Int) ≤ n55 ∧ n55 ≤ (255 : Int)
                intro n58
                intro q58 -- n58 = IntKind.u8.wrap (n55 + (1 : Int))
                rw [IntKind.wrap_u8] at q58
                intro ⟨l58, u58⟩ -- (0 : Int) ≤ n58 ∧ n58 ≤ (255 : Int)
                refine ⟨by first | omega | (dsimp only; omega), ?_⟩ -- (0 : Int) ≤ v_50.fst
                refine ⟨by first | omega | (dsimp only; omega), ?_⟩ -- v_50.fst < (↑v_50.snd.fst : Int)
                refine ⟨by first | omega | (dsimp only; omega), ?_⟩ -- (0 : Nat) + v_50.fst.toNat < v_50.snd.snd.fst.length
                intro z61
                intro qz61 -- z61 = v_50.snd.snd.fst.set ((0 : Nat) + v_50.fst.toNat) (UInt8.ofNat n58.toNat)
                intro n63
                intro q63 -- n63 = IntKind.i64.wrap (v_50.fst + (1 : Int))
                rw [IntKind.wrap_i64] at q63
                intro ⟨l63, u63⟩ -- (-9223372036854775808 : Int) ≤ n63 ∧ n63 ≤ (9223372036854775807 : Int)
                refine ⟨(n63, v_50.snd.fst, z61, v_50.snd.snd.snd.fst, v_50.snd.snd.snd.snd), ?_⟩
                refine ⟨by first | with_reducible rfl | rfl, ?_⟩ -- held = held
                refine ⟨by first | with_reducible rfl | rfl, ?_⟩ -- ins = ins
                refine ⟨by first | with_reducible rfl | rfl, ?_⟩ -- l = l
                refine ⟨by first | with_reducible rfl | rfl, ?_⟩ -- (0 : Nat) = (0 : Nat)
                refine ⟨by first | with_reducible rfl | rfl, ?_⟩ -- held.length = held.length
                refine ⟨by first | with_reducible rfl | rfl, ?_⟩ -- (0 : Nat) = (0 : Nat)
                refine ⟨by first | with_reducible rfl | rfl, ?_⟩ -- ins.length = ins.length
                refine ⟨by first | with_reducible rfl | rfl, ?_⟩ -- l = l
                refine ⟨by first | with_reducible rfl | rfl, ?_⟩ -- (0 : Nat) = (0 : Nat)
                refine ⟨by first | with_reducible rfl | rfl, ?_⟩ -- v_50.snd.fst = v_50.snd.fst
                refine ⟨by first | with_reducible rfl | rfl, ?_⟩ -- (0 : Nat) = (0 : Nat)
                refine ⟨by first | with_reducible rfl | rfl, ?_⟩ -- v_50.snd.snd.snd.fst = v_50.snd.snd.snd.fst
                refine ⟨by first | with_reducible rfl | rfl, ?_⟩ -- n63 = n63
                refine ⟨by first | with_reducible rfl | rfl, ?_⟩ -- held = held
                refine ⟨by first | with_reducible rfl | rfl, ?_⟩ -- ins = ins
                refine ⟨by first | with_reducible rfl | rfl, ?_⟩ -- z61 = z61
                refine ⟨by first | with_reducible rfl | rfl, ?_⟩ -- v_50.snd.snd.snd.snd = v_50.snd.snd.snd.snd
                refine ⟨?_, ?_⟩
                · -- left
                  refine ⟨by first | omega | (dsimp only; omega), ?_⟩ -- (0 : Int) ≤ n63 ∧ n63 ≤ (↑v_50.snd.fst : Int)
                  have h28 : z61.length = v_50.snd.fst := by
                    rw [qz61, List.length_set]; exact h26.2.1
                  refine ⟨h28, ?_⟩
                  exact by show v_50.snd.snd.snd.snd.length = v_50.snd.snd.snd.fst; omega -- v_50.snd.snd.snd.snd.length = v_50.snd.snd.snd.fst
                exact by show ((↑v_50.snd.fst : Int) - n63).toNat < ((↑v_50.snd.fst : Int) - v_50.fst).toNat; omega -- ((↑v_50.snd.fst : Int) - n63).toNat < ((↑v_50.snd.fst : Int) - v_50.fst).toNat
              · -- no
                refine ⟨?_, ?_⟩
                · -- left
                  refine ⟨((0 : Int), v_50.snd.snd.snd.fst, v_50.snd.snd.snd.snd), ?_⟩
                  refine ⟨by first | with_reducible rfl | rfl, ?_⟩ -- held = held
                  refine ⟨by first | with_reducible rfl | rfl, ?_⟩ -- ins = ins
                  refine ⟨by first | with_reducible rfl | rfl, ?_⟩ -- l = l
                  refine ⟨by first | with_reducible rfl | rfl, ?_⟩ -- (0 : Nat) = (0 : Nat)
                  refine ⟨by first | with_reducible rfl | rfl, ?_⟩ -- held.length = held.length
                  refine ⟨by first | with_reducible rfl | rfl, ?_⟩ -- (0 : Nat) = (0 : Nat)
                  refine ⟨by first | with_reducible rfl | rfl, ?_⟩ -- ins.length = ins.length
                  refine ⟨by first | with_reducible rfl | rfl, ?_⟩ -- l = l
                  refine ⟨by first | with_reducible rfl | rfl, ?_⟩ -- (0 : Nat) = (0 : Nat)
                  refine ⟨by first | with_reducible rfl | rfl, ?_⟩ -- v_50.snd.snd.snd.fst = v_50.snd.snd.snd.fst
                  refine ⟨by first | with_reducible rfl | rfl, ?_⟩ -- (0 : Int) = (0 : Int)
                  refine ⟨by first | with_reducible rfl | rfl, ?_⟩ -- held = held
                  refine ⟨by first | with_reducible rfl | rfl, ?_⟩ -- ins = ins
                  refine ⟨by first | with_reducible rfl | rfl, ?_⟩ -- v_50.snd.snd.snd.snd = v_50.snd.snd.snd.snd
                  refine ⟨by first | omega | (dsimp only; omega), ?_⟩ -- (0 : Int) ≤ (0 : Int) ∧ (0 : Int) ≤ (↑v_50.snd.snd.snd.fst : Int)
                  exact by show v_50.snd.snd.snd.snd.length = v_50.snd.snd.snd.fst; omega -- v_50.snd.snd.snd.snd.length = v_50.snd.snd.snd.fst
                intro v_66
                intro h29 -- ((0 : Int) ≤ v_66.fst ∧ v_66.fst ≤ (↑v_66.snd.fst : Int)) ∧ v_66.snd.snd.length = v_66.snd.fst
                intro n68
                intro q68 -- n68 = (↑v_66.snd.fst : Int)
                intro ⟨l68, u68⟩ -- (-9223372036854775808 : Int) ≤ n68 ∧ n68 ≤ (9223372036854775807 : Int)
                refine brd (fun c30 => ?_) (fun c30 => ?_) -- decide (v_66.fst < n68)
                · -- yes
                  refine ⟨by first | omega | (dsimp only; omega), ?_⟩ -- (0 : Int) ≤ v_66.fst
                  refine ⟨by first | omega | (dsimp only; omega), ?_⟩ -- v_66.fst < (↑v_66.snd.fst : Int)
                  refine ⟨by first | omega | (dsimp only; omega), ?_⟩ -- (0 : Nat) + v_66.fst.toNat < v_66.snd.snd.length
                  intro n71
                  intro q71 -- n71 = (↑(v_66.snd.snd.getD ((0 : Nat) + v_66.fst.toNat) (0 : UInt8)).toNat : Int)
                  intro ⟨l71, u71⟩ -- (0 : Int) ≤ n71 ∧ n71 ≤ (255 : Int)
                  intro n74
                  intro q74 -- n74 = IntKind.u8.wrap (n71 + (1 : Int))
                  rw [IntKind.wrap_u8] at q74
                  intro ⟨l74, u74⟩ -- (0 : Int) ≤ n74 ∧ n74 ≤ (255 : Int)
                  refine ⟨by first | omega | (dsimp only; omega), ?_⟩ -- (0 : Int) ≤ v_66.fst
                  refine ⟨by first | omega | (dsimp only; omega), ?_⟩ -- v_66.fst < (↑v_66.snd.fst : Int)
                  refine ⟨by first | omega | (dsimp only; omega), ?_⟩ -- (0 : Nat) + v_66.fst.toNat < v_66.snd.snd.length
                  intro z77
                  intro qz77 -- z77 = v_66.snd.snd.set ((0 : Nat) + v_66.fst.toNat) (UInt8.ofNat n74.toNat)
                  intro n79
                  intro q79 -- n79 = IntKind.i64.wrap (v_66.fst + (1 : Int))
                  rw [IntKind.wrap_i64] at q79
                  intro ⟨l79, u79⟩ -- (-9223372036854775808 : Int) ≤ n79 ∧ n79 ≤ (9223372036854775807 : Int)
                  refine ⟨(n79, v_66.snd.fst, z77), ?_⟩
                  refine ⟨by first | with_reducible rfl | rfl, ?_⟩ -- held = held
                  refine ⟨by first | with_reducible rfl | rfl, ?_⟩ -- ins = ins
                  refine ⟨by first | with_reducible rfl | rfl, ?_⟩ -- l = l
                  refine ⟨by first | with_reducible rfl | rfl, ?_⟩ -- (0 : Nat) = (0 : Nat)
                  refine ⟨by first | with_reducible rfl | rfl, ?_⟩ -- held.length = held.length
                  refine ⟨by first | with_reducible rfl | rfl, ?_⟩ -- (0 : Nat) = (0 : Nat)
                  refine ⟨by first | with_reducible rfl | rfl, ?_⟩ -- ins.length = ins.length
                  refine ⟨by first | with_reducible rfl | rfl, ?_⟩ -- l = l
                  refine ⟨by first | with_reducible rfl | rfl, ?_⟩ -- (0 : Nat) = (0 : Nat)
                  refine ⟨by first | with_reducible rfl | rfl, ?_⟩ -- v_66.snd.fst = v_66.snd.fst
                  refine ⟨by first | with_reducible rfl | rfl, ?_⟩ -- n79 = n79
                  refine ⟨by first | with_reducible rfl | rfl, ?_⟩ -- held = held
                  refine ⟨by first | with_reducible rfl | rfl, ?_⟩ -- ins = ins
                  refine ⟨by first | with_reducible rfl | rfl, ?_⟩ -- z77 = z77
                  refine ⟨?_, ?_⟩
                  · -- left
                    refine ⟨by first | omega | (dsimp only; omega), ?_⟩ -- (0 : Int) ≤ n79 ∧ n79 ≤ (↑v_66.snd.fst : Int)
                    -- z77.length = v_66.snd.fst
                    rw [qz77, List.length_set]; exact h29.2
                  exact by show ((↑v_66.snd.fst : Int) - n79).toNat < ((↑v_66.snd.fst : Int) - v_66.fst).toNat; omega -- ((↑v_66.snd.fst : Int) - n79).toNat < ((↑v_66.snd.fst : Int) - v_66.fst).toNat
                · -- no
                  refine br_intro (fun c31 => ?_) (fun c31 => ?_) -- bif { data := (List.take held.length (List.drop (0 : Nat) held)).toArray : ByteArray }.data.toList == { data := held.toArray : ByteArray }.data.toList then { data := (List.take ins.length (List.drop (0 : Nat) ins)).toArray : ByteArray }.data.toList == { data := ins.toArray : ByteArray }.data.toList else false
                  · -- yes
                    simp at c31 -- True
                    intro b_82
                    intro h32 -- eqL l l → b_82 = true
                    -- k (AV.bool (bif true then b_82 else false)) [] []
                    exact k_true hk (h32 ⟨rfl⟩)
                  · -- no
                    simp at c31
        intro h33 -- rE l w a = (0 : Int)
        intro ys_85
        intro h34 -- ys_85 = outs l w a l.length
        refine br_intro (fun c35 => ?_) (fun c35 => ?_) -- bif bif !{ data := (List.take n_23 (List.drop (0 : Nat) ys_21)).toArray : ByteArray }.data.toList == { data := (List.take n_34 (List.drop (0 : Nat) ys_32)).toArray : ByteArray }.data.toList then true else !{ data := (List.take m_24 (List.drop (0 : Nat) us_22)).toArray : ByteArray }.data.toList == { data := (List.take m_35 (List.drop (0 : Nat) us_33)).toArray : ByteArray }.data.toList then true else e_20 != e_31
        · -- yes
          simp at c35 -- (¬List.take n_23 ys_21 = List.take n_34 ys_32 ∨ ¬List.take m_24 us_22 = List.take m_35 us_33) ∨ ¬e_20 = e_31
          refine ⟨by with_reducible rfl, ?_⟩ -- true = true
          -- k (AV.bool false) [] []
          have tk : List.take l.length (List.drop 0 ys_18) = l := by rw [h5, List.drop_zero, List.take_length]
          exact absurd (h18.trans (by rw [tk]; exact h33)) h19
        · -- no
          simp at c35 -- (List.take n_23 ys_21 = List.take n_34 ys_32 ∧ List.take m_24 us_22 = List.take m_35 us_33) ∧ e_20 = e_31
          intro b_87
          intro h36 -- eqL [] (List.take l.length (List.drop (0 : Nat) ys_85)) → b_87 = true
          refine br_intro (fun c37 => ?_) (fun c37 => ?_) -- bif bif false then true else !b_87 then true else e_42 != (0 : Int)
          · -- yes
            simp at c37 -- b_87 = false ∨ ¬e_42 = (0 : Int)
            -- k (AV.bool false) [] []
            have tk : List.take l.length (List.drop 0 ys_18) = l := by rw [h5, List.drop_zero, List.take_length]
            exact absurd (h18.trans (by rw [tk]; exact h33)) h19
          · -- no
            simp at c37 -- b_87 = true ∧ e_42 = (0 : Int)
            exfalso; omega
      intro h38 -- rE (List.take l.length (List.drop (0 : Nat) ys_18)) w a = (0 : Int)
      intro ys_124
      intro h39 -- ys_124 = outs (List.take l.length (List.drop (0 : Nat) ys_18)) w a (List.take l.length (List.drop (0 : Nat) ys_18)).length
      refine ⟨?_, ?_⟩
      · -- left
        intro e_126
        intro h40 -- e_126 = rE l w a
        intro h41 -- e_126 ≠ (0 : Int)
        refine br_intro (fun c42 => ?_) (fun c42 => ?_) -- bif bif !{ data := (List.take n_23 (List.drop (0 : Nat) ys_21)).toArray : ByteArray }.data.toList == { data := (List.take n_34 (List.drop (0 : Nat) ys_32)).toArray : ByteArray }.data.toList then true else !{ data := (List.take m_24 (List.drop (0 : Nat) us_22)).toArray : ByteArray }.data.toList == { data := (List.take m_35 (List.drop (0 : Nat) us_33)).toArray : ByteArray }.data.toList then true else e_20 != e_31
        · -- yes
          simp at c42 -- (¬List.take n_23 ys_21 = List.take n_34 ys_32 ∨ ¬List.take m_24 us_22 = List.take m_35 us_33) ∨ ¬e_20 = e_31
          refine ⟨by with_reducible rfl, ?_⟩ -- true = true
          -- k (AV.bool false) [] []
          have tk : List.take l.length (List.drop 0 ys_18) = l := by rw [h5, List.drop_zero, List.take_length]
          exact absurd (h40.trans (by rw [tk] at h38; exact h38)) h41
        · -- no
          simp at c42 -- (List.take n_23 ys_21 = List.take n_34 ys_32 ∧ List.take m_24 us_22 = List.take m_35 us_33) ∧ e_20 = e_31
          intro b_129
          intro h43 -- eqL (List.take (List.take l.length (List.drop (0 : Nat) ys_18)).length (List.drop (0 : Nat) ys_124)) [] → b_129 = true
          refine br_intro (fun c44 => ?_) (fun c44 => ?_) -- bif bif false then true else !b_129 then true else (0 : Int) != e_126
          · -- yes
            simp at c44 -- b_129 = false ∨ ¬(0 : Int) = e_126
            -- k (AV.bool false) [] []
            have tk : List.take l.length (List.drop 0 ys_18) = l := by rw [h5, List.drop_zero, List.take_length]
            exact absurd (h40.trans (by rw [tk] at h38; exact h38)) h41
          · -- no
            simp at c44 -- b_129 = true ∧ (0 : Int) = e_126
            exfalso; omega
      intro h45 -- rE l w a = (0 : Int)
      intro ys_166
      intro h46 -- ys_166 = outs l w a l.length
      refine br_intro (fun c47 => ?_) (fun c47 => ?_) -- bif bif !{ data := (List.take n_23 (List.drop (0 : Nat) ys_21)).toArray : ByteArray }.data.toList == { data := (List.take n_34 (List.drop (0 : Nat) ys_32)).toArray : ByteArray }.data.toList then true else !{ data := (List.take m_24 (List.drop (0 : Nat) us_22)).toArray : ByteArray }.data.toList == { data := (List.take m_35 (List.drop (0 : Nat) us_33)).toArray : ByteArray }.data.toList then true else e_20 != e_31
      · -- yes
        simp at c47 -- (¬List.take n_23 ys_21 = List.take n_34 ys_32 ∨ ¬List.take m_24 us_22 = List.take m_35 us_33) ∨ ¬e_20 = e_31
        refine ⟨by with_reducible rfl, ?_⟩ -- true = true
        -- k (AV.bool false) [] []
        exfalso
        simp only [qz14, qz16, List.drop_zero, List.take_length] at h6 h7 h8
        have A := same_next h6 h7 h8 h9 h12 h13 h14 h15
        rcases c47 with (c | c) | c
        · exact c (by rw [← h10, ← h16, A.1])
        · exact c (by rw [← h11, ← h17, A.2.1])
        · exact c A.2.2
      · -- no
        simp at c47 -- (List.take n_23 ys_21 = List.take n_34 ys_32 ∧ List.take m_24 us_22 = List.take m_35 us_33) ∧ e_20 = e_31
        intro b_168
        intro h48 -- eqL (List.take (List.take l.length (List.drop (0 : Nat) ys_18)).length (List.drop (0 : Nat) ys_124)) (List.take l.length (List.drop (0 : Nat) ys_166)) → b_168 = true
        refine br_intro (fun c49 => ?_) (fun c49 => ?_) -- bif bif false then true else !b_168 then true else (0 : Int) != (0 : Int)
        · -- yes
          simp at c49 -- b_168 = false
          -- k (AV.bool false) [] []
          exfalso
          have tk : List.take l.length (List.drop 0 ys_18) = l := by rw [h5, List.drop_zero, List.take_length]
          rw [h48 ⟨by rw [h39, h46, tk]⟩] at c49; cases c49
        · -- no
          simp at c49 -- b_168 = true
          refine ⟨?_, ?_⟩
          · -- left
            refine ⟨((0 : Int), n_23, ys_21, m_24, us_22), ?_⟩
            refine ⟨by first | with_reducible rfl | rfl, ?_⟩ -- held = held
            refine ⟨by first | with_reducible rfl | rfl, ?_⟩ -- ins = ins
            refine ⟨by first | with_reducible rfl | rfl, ?_⟩ -- l = l
            refine ⟨by first | with_reducible rfl | rfl, ?_⟩ -- (0 : Nat) = (0 : Nat)
            refine ⟨by first | with_reducible rfl | rfl, ?_⟩ -- held.length = held.length
            refine ⟨by first | with_reducible rfl | rfl, ?_⟩ -- (0 : Nat) = (0 : Nat)
            refine ⟨by first | with_reducible rfl | rfl, ?_⟩ -- ins.length = ins.length
            have h50 : List.take l.length (List.drop (0 : Nat) ys_18) = l := by
              have tk : List.take l.length (List.drop 0 ys_18) = l := by rw [h5, List.drop_zero, List.take_length]
              exact tk
            refine ⟨h50, ?_⟩
            refine ⟨by first | with_reducible rfl | rfl, ?_⟩ -- (0 : Nat) = (0 : Nat)
            refine ⟨by first | with_reducible rfl | rfl, ?_⟩ -- n_23 = n_23
            refine ⟨by first | with_reducible rfl | rfl, ?_⟩ -- (0 : Nat) = (0 : Nat)
            refine ⟨by first | with_reducible rfl | rfl, ?_⟩ -- m_24 = m_24
            refine ⟨by first | with_reducible rfl | rfl, ?_⟩ -- (0 : Int) = (0 : Int)
            refine ⟨by show z14 = held; assumption, ?_⟩ -- z14 = held
            refine ⟨by show z16 = ins; assumption, ?_⟩ -- z16 = ins
            refine ⟨by first | with_reducible rfl | rfl, ?_⟩ -- ys_21 = ys_21
            refine ⟨by first | with_reducible rfl | rfl, ?_⟩ -- us_22 = us_22
            refine ⟨by first | omega | (dsimp only; omega), ?_⟩ -- (0 : Int) ≤ (0 : Int) ∧ (0 : Int) ≤ (↑n_23 : Int)
            refine ⟨by show ys_21.length = n_23; assumption, ?_⟩ -- ys_21.length = n_23
            exact by show us_22.length = m_24; assumption -- us_22.length = m_24
          intro v_170
          intro h51 -- ((0 : Int) ≤ v_170.fst ∧ v_170.fst ≤ (↑v_170.snd.fst : Int)) ∧ v_170.snd.snd.fst.length = v_170.snd.fst ∧ v_170.snd.snd.snd.snd.length = v_170.snd.snd.snd.fst
          intro n172
          intro q172 -- n172 = (↑v_170.snd.fst : Int)
          intro ⟨l172, u172⟩ -- (-9223372036854775808 : Int) ≤ n172 ∧ n172 ≤ (9223372036854775807 : Int)
          refine brd (fun c52 => ?_) (fun c52 => ?_) -- decide (v_170.fst < n172)
          · -- yes
            refine ⟨by first | omega | (dsimp only; omega), ?_⟩ -- (0 : Int) ≤ v_170.fst
            refine ⟨by first | omega | (dsimp only; omega), ?_⟩ -- v_170.fst < (↑v_170.snd.fst : Int)
            refine ⟨by first | omega | (dsimp only; omega), ?_⟩ -- (0 : Nat) + v_170.fst.toNat < v_170.snd.snd.fst.length
            intro n175
            intro q175 -- n175 = (↑(v_170.snd.snd.fst.getD ((0 : Nat) + v_170.fst.toNat) (0 : UInt8)).toNat : Int)
            intro ⟨l175, u175⟩ -- (0 : Int) ≤ n175 ∧ n175 ≤ (255 : Int)
            intro n178
            intro q178 -- n178 = IntKind.u8.wrap (n175 + (1 : Int))
            rw [IntKind.wrap_u8] at q178
            intro ⟨l178, u178⟩ -- (0 : Int) ≤ n178 ∧ n178 ≤ (255 : Int)
            refine ⟨by first | omega | (dsimp only; omega), ?_⟩ -- (0 : Int) ≤ v_170.fst
            refine ⟨by first | omega | (dsimp only; omega), ?_⟩ -- v_170.fst < (↑v_170.snd.fst : Int)
            refine ⟨by first | omega | (dsimp only; omega), ?_⟩ -- (0 : Nat) + v_170.fst.toNat < v_170.snd.snd.fst.length
            intro z181
            intro qz181 -- z181 = v_170.snd.snd.fst.set ((0 : Nat) + v_170.fst.toNat) (UInt8.ofNat n178.toNat)
            intro n183
            intro q183 -- n183 = IntKind.i64.wrap (v_170.fst + (1 : Int))
            rw [IntKind.wrap_i64] at q183
            intro ⟨l183, u183⟩ -- (-9223372036854775808 : Int) ≤ n183 ∧ n183 ≤ (9223372036854775807 : Int)
            refine ⟨(n183, v_170.snd.fst, z181, v_170.snd.snd.snd.fst, v_170.snd.snd.snd.snd), ?_⟩
            refine ⟨by first | with_reducible rfl | rfl, ?_⟩ -- held = held
            refine ⟨by first | with_reducible rfl | rfl, ?_⟩ -- ins = ins
            refine ⟨by first | with_reducible rfl | rfl, ?_⟩ -- l = l
            refine ⟨by first | with_reducible rfl | rfl, ?_⟩ -- (0 : Nat) = (0 : Nat)
            refine ⟨by first | with_reducible rfl | rfl, ?_⟩ -- held.length = held.length
            refine ⟨by first | with_reducible rfl | rfl, ?_⟩ -- (0 : Nat) = (0 : Nat)
            refine ⟨by first | with_reducible rfl | rfl, ?_⟩ -- ins.length = ins.length
            refine ⟨by first | with_reducible rfl | rfl, ?_⟩ -- l = l
            refine ⟨by first | with_reducible rfl | rfl, ?_⟩ -- (0 : Nat) = (0 : Nat)
            refine ⟨by first | with_reducible rfl | rfl, ?_⟩ -- v_170.snd.fst = v_170.snd.fst
            refine ⟨by first | with_reducible rfl | rfl, ?_⟩ -- (0 : Nat) = (0 : Nat)
            refine ⟨by first | with_reducible rfl | rfl, ?_⟩ -- v_170.snd.snd.snd.fst = v_170.snd.snd.snd.fst
            refine ⟨by first | with_reducible rfl | rfl, ?_⟩ -- n183 = n183
            refine ⟨by first | with_reducible rfl | rfl, ?_⟩ -- held = held
            refine ⟨by first | with_reducible rfl | rfl, ?_⟩ -- ins = ins
            refine ⟨by first | with_reducible rfl | rfl, ?_⟩ -- z181 = z181
            refine ⟨by first | with_reducible rfl | rfl, ?_⟩ -- v_170.snd.snd.snd.snd = v_170.snd.snd.snd.snd
            refine ⟨?_, ?_⟩
            · -- left
              refine ⟨by first | omega | (dsimp only; omega), ?_⟩ -- (0 : Int) ≤ n183 ∧ n183 ≤ (↑v_170.snd.fst : Int)
              have h53 : z181.length = v_170.snd.fst := by
                rw [qz181, List.length_set]; exact h51.2.1
              refine ⟨h53, ?_⟩
              exact by show v_170.snd.snd.snd.snd.length = v_170.snd.snd.snd.fst; omega -- v_170.snd.snd.snd.snd.length = v_170.snd.snd.snd.fst
            exact by show ((↑v_170.snd.fst : Int) - n183).toNat < ((↑v_170.snd.fst : Int) - v_170.fst).toNat; omega -- ((↑v_170.snd.fst : Int) - n183).toNat < ((↑v_170.snd.fst : Int) - v_170.fst).toNat
          · -- no
            refine ⟨?_, ?_⟩
            · -- left
              refine ⟨((0 : Int), v_170.snd.snd.snd.fst, v_170.snd.snd.snd.snd), ?_⟩
              refine ⟨by first | with_reducible rfl | rfl, ?_⟩ -- held = held
              refine ⟨by first | with_reducible rfl | rfl, ?_⟩ -- ins = ins
              refine ⟨by first | with_reducible rfl | rfl, ?_⟩ -- l = l
              refine ⟨by first | with_reducible rfl | rfl, ?_⟩ -- (0 : Nat) = (0 : Nat)
              refine ⟨by first | with_reducible rfl | rfl, ?_⟩ -- held.length = held.length
              refine ⟨by first | with_reducible rfl | rfl, ?_⟩ -- (0 : Nat) = (0 : Nat)
              refine ⟨by first | with_reducible rfl | rfl, ?_⟩ -- ins.length = ins.length
              refine ⟨by first | with_reducible rfl | rfl, ?_⟩ -- l = l
              refine ⟨by first | with_reducible rfl | rfl, ?_⟩ -- (0 : Nat) = (0 : Nat)
              refine ⟨by first | with_reducible rfl | rfl, ?_⟩ -- v_170.snd.snd.snd.fst = v_170.snd.snd.snd.fst
              refine ⟨by first | with_reducible rfl | rfl, ?_⟩ -- (0 : Int) = (0 : Int)
              refine ⟨by first | with_reducible rfl | rfl, ?_⟩ -- held = held
              refine ⟨by first | with_reducible rfl | rfl, ?_⟩ -- ins = ins
              refine ⟨by first | with_reducible rfl | rfl, ?_⟩ -- v_170.snd.snd.snd.snd = v_170.snd.snd.snd.snd
              refine ⟨by first | omega | (dsimp only; omega), ?_⟩ -- (0 : Int) ≤ (0 : Int) ∧ (0 : Int) ≤ (↑v_170.snd.snd.snd.fst : Int)
              exact by show v_170.snd.snd.snd.snd.length = v_170.snd.snd.snd.fst; omega -- v_170.snd.snd.snd.snd.length = v_170.snd.snd.snd.fst
            intro v_186
            intro h54 -- ((0 : Int) ≤ v_186.fst ∧ v_186.fst ≤ (↑v_186.snd.fst : Int)) ∧ v_186.snd.snd.length = v_186.snd.fst
            intro n188
            intro q188 -- n188 = (↑v_186.snd.fst : Int)
            intro ⟨l188, u188⟩ -- (-9223372036854775808 : Int) ≤ n188 ∧ n188 ≤ (9223372036854775807 : Int)
            refine brd (fun c55 => ?_) (fun c55 => ?_) -- decide (v_186.fst < n188)
            · -- yes
              refine ⟨by first | omega | (dsimp only; omega), ?_⟩ -- (0 : Int) ≤ v_186.fst
              refine ⟨by first | omega | (dsimp only; omega), ?_⟩ -- v_186.fst < (↑v_186.snd.fst : Int)
              refine ⟨by first | omega | (dsimp only; omega), ?_⟩ -- (0 : Nat) + v_186.fst.toNat < v_186.snd.snd.length
              intro n191
              intro q191 -- n191 = (↑(v_186.snd.snd.getD ((0 : Nat) + v_186.fst.toNat) (0 : UInt8)).toNat : Int)
              intro ⟨l191, u191⟩ -- (0 : Int) ≤ n191 ∧ n191 ≤ (255 : Int)
              intro n194
              intro q194 -- n194 = IntKind.u8.wrap (n191 + (1 : Int))
              rw [IntKind.wrap_u8] at q194
              intro ⟨l194, u194⟩ -- (0 : Int) ≤ n194 ∧ n194 ≤ (255 : Int)
              refine ⟨by first | omega | (dsimp only; omega), ?_⟩ -- (0 : Int) ≤ v_186.fst
              refine ⟨by first | omega | (dsimp only; omega), ?_⟩ -- v_186.fst < (↑v_186.snd.fst : Int)
              refine ⟨by first | omega | (dsimp only; omega), ?_⟩ -- (0 : Nat) + v_186.fst.toNat < v_186.snd.snd.length
              intro z197
              intro qz197 -- z197 = v_186.snd.snd.set ((0 : Nat) + v_186.fst.toNat) (UInt8.ofNat n194.toNat)
              intro n199
              intro q199 -- n199 = IntKind.i64.wrap (v_186.fst + (1 : Int))
              rw [IntKind.wrap_i64] at q199
              intro ⟨l199, u199⟩ -- (-9223372036854775808 : Int) ≤ n199 ∧ n199 ≤ (9223372036854775807 : Int)
              refine ⟨(n199, v_186.snd.fst, z197), ?_⟩
              refine ⟨by first | with_reducible rfl | rfl, ?_⟩ -- held = held
              refine ⟨by first | with_reducible rfl | rfl, ?_⟩ -- ins = ins
              refine ⟨by first | with_reducible rfl | rfl, ?_⟩ -- l = l
              refine ⟨by first | with_reducible rfl | rfl, ?_⟩ -- (0 : Nat) = (0 : Nat)
              refine ⟨by first | with_reducible rfl | rfl, ?_⟩ -- held.length = held.length
              refine ⟨by first | with_reducible rfl | rfl, ?_⟩ -- (0 : Nat) = (0 : Nat)
              refine ⟨by first | with_reducible rfl | rfl, ?_⟩ -- ins.length = ins.length
              refine ⟨by first | with_reducible rfl | rfl, ?_⟩ -- l = l
              refine ⟨by first | with_reducible rfl | rfl, ?_⟩ -- (0 : Nat) = (0 : Nat)
              refine ⟨by first | with_reducible rfl | rfl, ?_⟩ -- v_186.snd.fst = v_186.snd.fst
              refine ⟨by first | with_reducible rfl | rfl, ?_⟩ -- n199 = n199
              refine ⟨by first | with_reducible rfl | rfl, ?_⟩ -- held = held
              refine ⟨by first | with_reducible rfl | rfl, ?_⟩ -- ins = ins
              refine ⟨by first | with_reducible rfl | rfl, ?_⟩ -- z197 = z197
              refine ⟨?_, ?_⟩
              · -- left
                refine ⟨by first | omega | (dsimp only; omega), ?_⟩ -- (0 : Int) ≤ n199 ∧ n199 ≤ (↑v_186.snd.fst : Int)
                -- z197.length = v_186.snd.fst
                rw [qz197, List.length_set]; exact h54.2
              exact by show ((↑v_186.snd.fst : Int) - n199).toNat < ((↑v_186.snd.fst : Int) - v_186.fst).toNat; omega -- ((↑v_186.snd.fst : Int) - n199).toNat < ((↑v_186.snd.fst : Int) - v_186.fst).toNat
            · -- no
              refine br_intro (fun c56 => ?_) (fun c56 => ?_) -- bif { data := (List.take held.length (List.drop (0 : Nat) held)).toArray : ByteArray }.data.toList == { data := held.toArray : ByteArray }.data.toList then { data := (List.take ins.length (List.drop (0 : Nat) ins)).toArray : ByteArray }.data.toList == { data := ins.toArray : ByteArray }.data.toList else false
              · -- yes
                simp at c56 -- True
                intro b_202
                intro h57 -- eqL l l → b_202 = true
                -- k (AV.bool (bif true then b_202 else false)) [] []
                exact k_true hk (h57 ⟨rfl⟩)
              · -- no
                simp at c56

theorem wireTicks_ok : Holds Try.prog 5 lawTicks := by
  refine fn_sound (env := mkEnv T4) (tab_ok T4_ok) Try.func5 Try.call5 fun args k h => ?_
  match args, h with
  | [.sl 0 held, .sl 0 ins, .int .u8 what, .int .i64 p, .sl 6 l, .sl 0 w, .sl 1 a], h => exact ⟨by kernel_rfl, ticksLoops held ins l, fun _ _ => none, .cast (by kernel_rfl) (wireTicks_vc held ins what h.1.1 h.1.2 p h.2.1.1 h.2.1.2 l w a h.2.2.1 h.2.2.2.1 h.2.2.2.2.1 h.2.2.2.2.2.1 h.2.2.2.2.2.2.1 h.2.2.2.2.2.2.2.1 k h.2.2.2.2.2.2.2.2)⟩
end Go.Proofs.Ytkcnpemaocdnkaa
namespace Go.Proofs.Ytkcnpemaocdnkaa
open Go.ChangeShapes Go.WideShapes Go.ChangeAt Go.RowKit Go.Eng
set_option linter.unusedVariables false

theorem ownT : ownKnob Try.prog.godebug = none := by kernel_rfl
theorem laidT : laidOutB Try.prog = true := by kernel_rfl

theorem oneLeT {H : Type} (d : DataW H) : 1 ≤ Rows.uptoBulk d := by
  cases d with
  | lit l => cases l <;> simp [Rows.uptoBulk]
  | _ => simp [Rows.uptoBulk]
theorem sumLeT {H : Type} {α : Type} {Z : DataW H → α → Prop} (f : α → Nat) (hf : ∀ d x, Z d x → f x ≤ Rows.uptoBulk d) : ∀ (el : List (DataW H)) (xs : List α), ZAll Z el xs → (xs.map f).sum ≤ Rows.uptoBulkAll el
  | [], [], _ => by simp [Rows.uptoBulkAll]
  | d :: el, x :: xs, h => by
    have h1 := hf d x h.1
    have h2 := sumLeT f hf el xs h.2
    simp only [List.map_cons, List.sum_cons, Rows.uptoBulkAll]; omega
  | [], _ :: _, h => h.elim
  | _ :: _, [], h => h.elim
theorem sumBulkT {H : Type} {α : Type} {Z : DataW H → α → Prop} (f : α → Nat) (hf : ∀ d x, Z d x → f x ≤ Rows.uptoBulk d) {d : DataW H} {xs : List α} (h : DSz Z d xs) : (xs.map f).sum ≤ Rows.uptoBulk d := by
  rcases h with rfl | ⟨el, sp, rfl, h⟩
  · simp
  · have := sumLeT f hf el xs h
    simp only [Rows.uptoBulk]; omega
theorem onesLenT {α : Type} (xs : List α) : (xs.map fun _ => 1).sum = xs.length := by
  induction xs with
  | nil => rfl
  | cons x r ih => simp only [List.map_cons, List.sum_cons, List.length_cons, ih]; omega
theorem bulkLenT {H : Type} {α : Type} {Z : DataW H → α → Prop} {d : DataW H} {xs : List α} (h : DSz Z d xs) : xs.length ≤ Rows.uptoBulk d := by
  have := sumBulkT (fun _ : α => 1) (fun d _ _ => oneLeT d) h
  rwa [onesLenT] at this
theorem bulkTotT {H : Type} {d : DataW H} {xs : List (List UInt8)} (h : DSz (DSz Z0) d xs) : xs.flatten.length ≤ Rows.uptoBulk d := by
  have := sumBulkT List.length (fun d x h => bulkLenT h) h
  rwa [← List.length_flatten] at this
theorem bulkMsgT {H : Type} {d : DataW H} {xs : List Msg} (h : DSz ZMsg d xs) : (xs.map fun m => m.body.length).sum ≤ Rows.uptoBulk d :=
  sumBulkT (fun m : Msg => m.body.length) (fun d x h => by
    obtain ⟨d0, d1, d2, rfl, h⟩ := h
    have := bulkLenT h
    simp only [Rows.uptoBulk, Rows.uptoBulkAll]; omega) h

set_option maxHeartbeats 800000 in
set_option maxRecDepth 100000 in
theorem wireTicksContract (H : Type) (enc : TypeId × Value → H) (W : World) (base : Nat) (args : Array Value) (ds gs : List (DataW H)) (before : List MemPlace)
    (hval0 : ∀ (j : Nat) t v, Try.f5.params[j]? = some t → args[j]? = some v → Value.okWide Try.prog W .any base t v)
    (hW : DataW.Whole enc Try.prog Try.f5.params.toList Rows.wireTicksSpec.vars false W args.toList ds gs before) (hk : Rows.uptoSmall H (ds ++ gs) = true) :
    Calls Try.prog 5 args W fun e W' => ∃ v, e = .returned v ∧ Rows.wireTicksSpec.post enc Try.prog Try.f5 false true false false W args v W' := by
  have hval : ∀ (j : Nat) t v, Try.f5.params[j]? = some t → args[j]? = some v → Value.okWide Try.prog W .any base t v := hval0
  have hW' := hW
  obtain ⟨p, q, hA0, hV, rfl, hfz, hnd⟩ := hW
  have hA : DataW.TrodAll enc Try.prog W 0 (fun _ => true) true Try.f5.params.toList args.toList ds p := hA0
  rw [Try.params5] at hA hval
  obtain ⟨v0, vs0, d0, ds0, p0, q0, hargs, rfl, rfl, h0, r0⟩ := trodAll_cons hA
  obtain ⟨v1, vs1, d1, ds1, p1, q1, rfl, rfl, rfl, h1, r1⟩ := trodAll_cons r0
  obtain ⟨v2, vs2, d2, ds2, p2, q2, rfl, rfl, rfl, h2, r2⟩ := trodAll_cons r1
  obtain ⟨v3, vs3, d3, ds3, p3, q3, rfl, rfl, rfl, h3, r3⟩ := trodAll_cons r2
  obtain ⟨v4, vs4, d4, ds4, p4, q4, rfl, rfl, rfl, h4, r4⟩ := trodAll_cons r3
  obtain ⟨v5, vs5, d5, ds5, p5, q5, rfl, rfl, rfl, h5, r5⟩ := trodAll_cons r4
  obtain ⟨v6, vs6, d6, ds6, p6, q6, rfl, rfl, rfl, h6, r6⟩ := trodAll_cons r5
  obtain ⟨rfl, rfl, rfl⟩ := trodAll_nil r6
  obtain rfl : args = #[v0, v1, v2, v3, v4, v5, v6] := by cases args; simp_all
  obtain ⟨rfl, rfl⟩ := trodVars_none hV
  have k0 := h0
  have lt0 : ∀ x ∈ p0, x.block < W.heap.size := by obtain ⟨m, hm⟩ := k0; exact DataW.trod_lt m _ _ _ hm
  obtain ⟨xs0, w0, z0⟩ : ∃ xs : List (ty 0), Rep W (· < W.heap.size) noIds v0 (.sl 0 xs) ∧ DSz Z0 d0 xs := by
    obtain ⟨fuel, hf⟩ := h0
    exact rep_in (c := 0) (by decide) Try.underlying22 (by kernel_rfl) (cells_u8 Try.underlying5) (hval 0 22 v0 rfl rfl) hf
  have k1 := h1
  have lt1 : ∀ x ∈ p1, x.block < W.heap.size := by obtain ⟨m, hm⟩ := k1; exact DataW.trod_lt m _ _ _ hm
  obtain ⟨xs1, w1, z1⟩ : ∃ xs : List (ty 0), Rep W (· < W.heap.size) noIds v1 (.sl 0 xs) ∧ DSz Z0 d1 xs := by
    obtain ⟨fuel, hf⟩ := h1
    exact rep_in (c := 0) (by decide) Try.underlying22 (by kernel_rfl) (cells_u8 Try.underlying5) (hval 1 22 v1 rfl rfl) hf
  obtain ⟨a2, rfl, rfl, rfl, w2⟩ := open_int Try.underlying5 (hval 2 5 v2 rfl rfl) h2
  obtain ⟨a3, rfl, rfl, rfl, w3⟩ := open_int Try.underlying3 (hval 3 3 v3 rfl rfl) h3
  have k4 := h4
  have lt4 : ∀ x ∈ p4, x.block < W.heap.size := by obtain ⟨m, hm⟩ := k4; exact DataW.trod_lt m _ _ _ hm
  obtain ⟨xs4, w4, z4⟩ : ∃ xs : List (ty 6), Rep W (· < W.heap.size) noIds v4 (.sl 6 xs) ∧ DSz (DSz Z0) d4 xs := by
    obtain ⟨fuel, hf⟩ := h4
    exact rep_in (c := 6) (by decide) Try.underlying28 (by kernel_rfl) (cells_bytes Try.underlying22 Try.underlying5 (by kernel_rfl)) (hval 4 28 v4 rfl rfl) hf
  have k5 := h5
  have lt5 : ∀ x ∈ p5, x.block < W.heap.size := by obtain ⟨m, hm⟩ := k5; exact DataW.trod_lt m _ _ _ hm
  obtain ⟨xs5, w5, z5⟩ : ∃ xs : List (ty 0), Rep W (· < W.heap.size) noIds v5 (.sl 0 xs) ∧ DSz Z0 d5 xs := by
    obtain ⟨fuel, hf⟩ := h5
    exact rep_in (c := 0) (by decide) Try.underlying22 (by kernel_rfl) (cells_u8 Try.underlying5) (hval 5 22 v5 rfl rfl) hf
  have k6 := h6
  have lt6 : ∀ x ∈ p6, x.block < W.heap.size := by obtain ⟨m, hm⟩ := k6; exact DataW.trod_lt m _ _ _ hm
  obtain ⟨xs6, w6, z6⟩ : ∃ xs : List (ty 1), Rep W (· < W.heap.size) noIds v6 (.sl 1 xs) ∧ DSz Z0 d6 xs := by
    obtain ⟨fuel, hf⟩ := h6
    exact rep_in (c := 1) (by decide) Try.underlying31 (by kernel_rfl) (cells_i64 Try.underlying3) (hval 6 31 v6 rfl rfl) hf
  clear hA0 hval0
  have hb := of_decide_eq_true hk
  simp only [List.append_nil, Rows.uptoBulkAll] at hb
  have hz0 : xs0.length ≤ 1048576 := by have := bulkLenT z0; omega
  have hz1 : xs1.length ≤ 1048576 := by have := bulkLenT z1; omega
  have hk2 : kwf .u8 a2 := by simpa [Lit.wf, kwf] using w2
  have hk3 : kwf .i64 a3 := by simpa [Lit.wf, kwf] using w3
  have hz4 : xs4.length ≤ 1048576 := by have := bulkLenT z4; omega
  have ht4 : xs4.flatten.length ≤ 1048576 := by have := bulkTotT z4; omega
  have hz5 : xs5.length ≤ 1048576 := by have := bulkLenT z5; omega
  have hz6 : xs6.length ≤ 1048576 := by have := bulkLenT z6; omega
  refine (calls_of_holds wireTicks_ok Try.call5 (w := W) (vals := #[v0, v1, .int .u8 a2, .int .i64 a3, v4, v5, v6]) (args := [.sl 0 xs0, .sl 0 xs1, .int .u8 a2, .int .i64 a3, .sl 6 xs4, .sl 0 xs5, .sl 1 xs6]) rfl (fun j v hj => ?_) ⟨hk2, hk3, hz0, hz1, hz4, ht4, hz5, hz6, rfl⟩).mono fun e W' ⟨he, bel⟩ => ?_
  · rcases j with _ | _ | _ | _ | _ | _ | _ | j
    · simp at hj; subst hj; exact w0
    · simp at hj; subst hj; exact w1
    · simp at hj; subst hj; exact .int hk2
    · simp at hj; subst hj; exact .int hk3
    · simp at hj; subst hj; exact w4
    · simp at hj; subst hj; exact w5
    · simp at hj; subst hj; exact w6
    · simp at hj
  subst he
  exact ⟨_, rfl, _, _, _, [], _, [], hW', trodAll_mk1 (shut_bool Try.underlying4 _), (trodAll_cons_mk (Below.trod laidT (by kernel_rfl) (of_decide_eq_true (by kernel_rfl)) k0 bel lt0) (trodAll_cons_mk (Below.trod laidT (by kernel_rfl) (of_decide_eq_true (by kernel_rfl)) k1 bel lt1) (trodAll_cons_mk (shut_int Try.underlying5 w2) (trodAll_cons_mk (shut_int Try.underlying3 w3) (trodAll_cons_mk (Below.trod laidT (by kernel_rfl) (of_decide_eq_true (by kernel_rfl)) k4 bel lt4) (trodAll_cons_mk (Below.trod laidT (by kernel_rfl) (of_decide_eq_true (by kernel_rfl)) k5 bel lt5) (trodAll_cons_mk (Below.trod laidT (by kernel_rfl) (of_decide_eq_true (by kernel_rfl)) k6 bel lt6) trodAll_mk0))))))), rfl, bel.frame _, fun h => by cases h⟩

set_option maxRecDepth 100000 in
theorem wireTicksLifted (os : Os) (started : os.Started) (H : Type) (enc : TypeId × Value → H) (F : Stop.Interp) :
    ReturnsInHanded {} Try.checked os 5 .any ((Rows.OpenSpec.upto Rows.wireTicksSpec).pre6 enc Try.prog Try.f5 Rows.wireTicksUptoRow.domain false) (((Rows.OpenSpec.upto Rows.wireTicksSpec).at F).post enc Try.prog Try.f5 false true false false) := by
  refine returnsInHanded_of_cond (C := Try.checked) (s := Rows.OpenSpec.upto Rows.wireTicksSpec) (k := Rows.uptoSmall) rfl ownT started (by kernel_rfl) Try.func5
    (OpenSpec.witness (enc := enc) (C := Try.checked) (s := Rows.OpenSpec.upto Rows.wireTicksSpec) (k := Rows.uptoSmall) rfl false ⟨#[], #[.slice none 0 0, .slice none 0 0, .int .u8 0, .int .i64 0, .slice none 0 0, .slice none 0 0, .slice none 0 0], []⟩ 8 (by kernel_rfl) (by kernel_rfl) (by kernel_rfl)
      (x := ([.nil, .nil, .lit (.int .u8 0), .lit (.int .i64 0), .nil, .nil, .nil], [], [])) (by kernel_rfl) rfl (by kernel_rfl)) ?_
  intro W base args ds gs before hval hW _ hk _
  exact wireTicksContract H enc W base args ds gs before hval hW hk

theorem wireTicks_said : Rows.WireTicksUptoSaid :=
  OpenClaim.holds_of_cond 5 Try.f5 rfl rfl rfl rfl rfl rfl rfl ⟨rfl, rfl, rfl, rfl, rfl⟩ rfl rfl rfl rfl rfl (by kernel_rfl) Try.func5 (by kernel_rfl)
    (of_decide_eq_true (by kernel_rfl)) (by unfold Func.isWrapper; first | (rw [if_pos (by decide +kernel)]; kernel_rfl) | (rw [if_neg (by decide +kernel)]; exact ⟨rfl, rfl⟩))
    (fun os started H enc _ F => wireTicksLifted os started H enc F)
#print axioms wireTicks_said
end Go.Proofs.Ytkcnpemaocdnkaa


