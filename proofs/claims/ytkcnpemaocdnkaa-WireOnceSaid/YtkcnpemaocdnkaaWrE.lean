/- WireOnce: what comes out in a tick is what was held, ahead of what went in, once or twice, or not at all, with one byte turned at most; a byte turned twice is as it was. Any bytes, doing and place. No conditions beyond the row's own. -/
import Derived.Test.YtkcnpemaocdnkaaWrD
import Derived.Test.YtkcnpemaocdnkaaEngR
import Derived.Test.YtkcnpemaocdnkaaRows
namespace Go.Proofs.Ytkcnpemaocdnkaa
open Go Go.Eng Go.Wr Go.Proofs
set_option linter.unusedVariables false
set_option maxHeartbeats 2000000 in
theorem wireOnce_vc (held : List UInt8) (ins : List UInt8) (what : Int) (what0 : (0 : Int) ≤ what) (what1 : what ≤ (255 : Int)) (p : Int) (p0 : (-9223372036854775808 : Int) ≤ p) (p1 : p ≤ (9223372036854775807 : Int)) (k : AV → List (Option Blk) → List Blk → Prop) (hk : k (AV.bool true) [] []) :
  ∀ (n1 : Int),
  (n1 = (↑held.length : Int)) →
  ((-9223372036854775808 : Int) ≤ n1 ∧ n1 ≤ (9223372036854775807 : Int)) →
  ∀ (n4 : Int),
  (n4 = (↑ins.length : Int)) →
  br (bif decide (n1 > (20000 : Int)) then true else decide (n4 > (20000 : Int)))
   ((k (AV.bool true) [] []))
   ((
     ((0 : Int) ≤ what) ∧
     (what ≤ (255 : Int))) ∧
    (
     ((-9223372036854775808 : Int) ≤ p) ∧
     (p ≤ (9223372036854775807 : Int))) ∧
    (
     ∀ (e_6 : Int),
     (e_6 = wE held.length ins.length what p) →
     (e_6 = (2 : Int) ∨ e_6 = (3 : Int)) →
     br (e_6 != (0 : Int))
      (∀ (n9 : Int),
       (n9 = (0 : Int)) →
       ∀ (n11 : Int),
       (n11 = (0 : Int)) →
       (k (AV.bool (bif bif true then n9 == (0 : Int) else false then n11 == (0 : Int) else false)) [] []))
      (∀ (n13 : Int),
       (n13 = (0 : Int)) →
       ((-9223372036854775808 : Int) ≤ n13 ∧ n13 ≤ (9223372036854775807 : Int)) →
       ∀ (n16 : Int),
       (n16 = (↑held.length : Int)) →
       ((-9223372036854775808 : Int) ≤ n16 ∧ n16 ≤ (9223372036854775807 : Int)) →
       ∀ (n19 : Int),
       (n19 = (↑held.length : Int)) →
       br (decide (n13 < n16))
        ((true = true) ∧
         (k (AV.bool false) [] []))
        ((False)))) ∧
    (
     (wE held.length ins.length what p = (0 : Int)) →
     (what = (3 : Int)) →
     ∀ (n21 : Int),
     (n21 = (↑held.length : Int)) →
     ((-9223372036854775808 : Int) ≤ n21 ∧ n21 ≤ (9223372036854775807 : Int)) →
     ∀ (n24 : Int),
     (n24 = (↑held.length : Int)) →
     ((-9223372036854775808 : Int) ≤ n24 ∧ n24 ≤ (9223372036854775807 : Int)) →
     ∀ (n27 : Int),
     (n27 = (↑held.length : Int)) →
     (
      (decide (n21 < n24) = false) →
      ((0 : Int) ≤ n27) ∧
      (n27 ≤ (↑held.length : Int))) ∧
     br (bif decide (n21 < n24) then true else !{ data := (List.take n27.toNat (List.drop (0 : Nat) held)).toArray : ByteArray }.data.toList == { data := held.toArray : ByteArray }.data.toList)
      ((k (AV.bool false) [] []))
      (∀ (n30 : Int),
       (n30 = (↑held.length : Int)) →
       ((-9223372036854775808 : Int) ≤ n30 ∧ n30 ≤ (9223372036854775807 : Int)) →
       ((0 : Int) ≤ n30) ∧
       (n30 ≤ (↑held.length : Int)) ∧
       br (what == (3 : Int))
        (∀ (n33 : Int),
         (n33 = (↑(held.length - n30.toNat) : Int)) →
         (k (AV.bool (bif bif true then n33 == (0 : Int) else false then { data := (List.take ins.length (List.drop (0 : Nat) ins)).toArray : ByteArray }.data.toList == { data := ins.toArray : ByteArray }.data.toList else false)) [] []))
        (∀ (n35 : Int),
         (n35 = (↑ins.length : Int)) →
         ((-9223372036854775808 : Int) ≤ n35 ∧ n35 ≤ (9223372036854775807 : Int)) →
         ∀ (n38 : Int),
         (n38 = (↑(held.length - n30.toNat) : Int)) →
         ∀ (n40 : Int),
         (n40 = (↑ins.length : Int)) →
         ∀ (n42 : Int),
         (n42 = max n40 (1 : Int)) →
         (
          ((n35 != (0 : Int)) = false) →
          (n42 ≠ (0 : Int))) ∧
         ∀ (n45 : Int),
         (n45 = n38.tmod n42) →
         ∀ (n47 : Int),
         (n47 = (↑(held.length - n30.toNat) : Int)) →
         ∀ (n49 : Int),
         (n49 = (↑ins.length : Int)) →
         ∀ (n51 : Int),
         (n51 = IntKind.i64.wrap ((2 : Int) * n49)) →
         br (bif bif n35 != (0 : Int) then true else n45 != (0 : Int) then true else decide (n47 > n51))
          ((k (AV.bool false) [] []))
          ((
            ∃ (v : Int × Int × Nat × List UInt8),
            (ins = ins) ∧
            (what = what) ∧
            (p = p) ∧
            (true = true) ∧
            ((0 : Nat) + n30.toNat = held.length) ∧
            (held.length - n30.toNat = v.snd.snd.fst) ∧
            ((0 : Int) = v.fst) ∧
            ((0 : Int) = v.snd.fst) ∧
            (held = v.snd.snd.snd) ∧
            (
             ((0 : Int) ≤ v.snd.fst) ∧
             (v.snd.fst ≤ (↑v.snd.snd.fst : Int))) ∧
            (v.snd.snd.snd = held ++ wOut ins what p) ∧
            (v.snd.snd.fst = (wOut ins what p).length) ∧
            (v.snd.snd.snd.length = held.length + v.snd.snd.fst) ∧
            (v.snd.snd.fst ≤ (40000 : Nat)) ∧
            (
             (ins.length = (0 : Nat)) →
             (v.snd.snd.fst = (0 : Nat))) ∧
            (v.fst = df (wOut ins what p) ins v.snd.fst.toNat) ∧
            (
             ((0 : Int) ≤ v.fst) ∧
             (v.fst ≤ v.snd.fst)) ∧
            (what ≠ (3 : Int)) ∧
            (wE held.length ins.length what p = (0 : Int))) ∧
           ∀ (v_54 : Int × Int × Nat × List UInt8),
           (((0 : Int) ≤ v_54.snd.fst ∧ v_54.snd.fst ≤ (↑v_54.snd.snd.fst : Int)) ∧ v_54.snd.snd.snd = held ++ wOut ins what p ∧ v_54.snd.snd.fst = (wOut ins what p).length ∧ v_54.snd.snd.snd.length = held.length + v_54.snd.snd.fst ∧ v_54.snd.snd.fst ≤ (40000 : Nat) ∧ (ins.length = (0 : Nat) → v_54.snd.snd.fst = (0 : Nat)) ∧ v_54.fst = df (wOut ins what p) ins v_54.snd.fst.toNat ∧ ((0 : Int) ≤ v_54.fst ∧ v_54.fst ≤ v_54.snd.fst) ∧ what ≠ (3 : Int) ∧ wE held.length ins.length what p = (0 : Int)) →
           ∀ (n56 : Int),
           (n56 = (↑v_54.snd.snd.fst : Int)) →
           ((-9223372036854775808 : Int) ≤ n56 ∧ n56 ≤ (9223372036854775807 : Int)) →
           br (decide (v_54.snd.fst < n56))
            (((0 : Int) ≤ v_54.snd.fst) ∧
             (v_54.snd.fst < (↑v_54.snd.snd.fst : Int)) ∧
             (held.length + v_54.snd.fst.toNat < v_54.snd.snd.snd.length) ∧
             ∀ (n59 : Int),
             (n59 = (↑(v_54.snd.snd.snd.getD (held.length + v_54.snd.fst.toNat) (0 : UInt8)).toNat : Int)) →
             ((0 : Int) ≤ n59 ∧ n59 ≤ (255 : Int)) →
             ∀ (n62 : Int),
             (n62 = (↑ins.length : Int)) →
             ((-9223372036854775808 : Int) ≤ n62 ∧ n62 ≤ (9223372036854775807 : Int)) →
             (n62 ≠ (0 : Int)) ∧
             ∀ (n65 : Int),
             (n65 = v_54.snd.fst.tmod n62) →
             ((-9223372036854775808 : Int) ≤ n65 ∧ n65 ≤ (9223372036854775807 : Int)) →
             ((0 : Int) ≤ n65) ∧
             (n65 < (↑ins.length : Int)) ∧
             ∀ (n68 : Int),
             (n68 = (↑(ins.getD n65.toNat (0 : UInt8)).toNat : Int)) →
             ((0 : Int) ≤ n68 ∧ n68 ≤ (255 : Int)) →
             br (n59 != n68)
              (∀ (n71 : Int),
               (n71 = IntKind.i64.wrap (v_54.fst + (1 : Int))) →
               ((-9223372036854775808 : Int) ≤ n71 ∧ n71 ≤ (9223372036854775807 : Int)) →
               ∀ (n74 : Int),
               (n74 = IntKind.i64.wrap (v_54.snd.fst + (1 : Int))) →
               ((-9223372036854775808 : Int) ≤ n74 ∧ n74 ≤ (9223372036854775807 : Int)) →
               ∃ (v' : Int × Int × Nat × List UInt8),
               (ins = ins) ∧
               (what = what) ∧
               (p = p) ∧
               (true = true) ∧
               (held.length = held.length) ∧
               (v_54.snd.snd.fst = v'.snd.snd.fst) ∧
               (n71 = v'.fst) ∧
               (n74 = v'.snd.fst) ∧
               (v_54.snd.snd.snd = v'.snd.snd.snd) ∧
               (
                (
                 ((0 : Int) ≤ v'.snd.fst) ∧
                 (v'.snd.fst ≤ (↑v'.snd.snd.fst : Int))) ∧
                (v'.snd.snd.snd = held ++ wOut ins what p) ∧
                (v'.snd.snd.fst = (wOut ins what p).length) ∧
                (v'.snd.snd.snd.length = held.length + v'.snd.snd.fst) ∧
                (v'.snd.snd.fst ≤ (40000 : Nat)) ∧
                (
                 (ins.length = (0 : Nat)) →
                 (v'.snd.snd.fst = (0 : Nat))) ∧
                (v'.fst = df (wOut ins what p) ins v'.snd.fst.toNat) ∧
                (
                 ((0 : Int) ≤ v'.fst) ∧
                 (v'.fst ≤ v'.snd.fst)) ∧
                (what ≠ (3 : Int)) ∧
                (wE held.length ins.length what p = (0 : Int))) ∧
               (((↑v'.snd.snd.fst : Int) - v'.snd.fst).toNat < ((↑v_54.snd.snd.fst : Int) - v_54.snd.fst).toNat))
              (∀ (n78 : Int),
               (n78 = IntKind.i64.wrap (v_54.snd.fst + (1 : Int))) →
               ((-9223372036854775808 : Int) ≤ n78 ∧ n78 ≤ (9223372036854775807 : Int)) →
               ∃ (v' : Int × Int × Nat × List UInt8),
               (ins = ins) ∧
               (what = what) ∧
               (p = p) ∧
               (true = true) ∧
               (held.length = held.length) ∧
               (v_54.snd.snd.fst = v'.snd.snd.fst) ∧
               (v_54.fst = v'.fst) ∧
               (n78 = v'.snd.fst) ∧
               (v_54.snd.snd.snd = v'.snd.snd.snd) ∧
               (
                (
                 ((0 : Int) ≤ v'.snd.fst) ∧
                 (v'.snd.fst ≤ (↑v'.snd.snd.fst : Int))) ∧
                (v'.snd.snd.snd = held ++ wOut ins what p) ∧
                (v'.snd.snd.fst = (wOut ins what p).length) ∧
                (v'.snd.snd.snd.length = held.length + v'.snd.snd.fst) ∧
                (v'.snd.snd.fst ≤ (40000 : Nat)) ∧
                (
                 (ins.length = (0 : Nat)) →
                 (v'.snd.snd.fst = (0 : Nat))) ∧
                (v'.fst = df (wOut ins what p) ins v'.snd.fst.toNat) ∧
                (
                 ((0 : Int) ≤ v'.fst) ∧
                 (v'.fst ≤ v'.snd.fst)) ∧
                (what ≠ (3 : Int)) ∧
                (wE held.length ins.length what p = (0 : Int))) ∧
               (((↑v'.snd.snd.fst : Int) - v'.snd.fst).toNat < ((↑v_54.snd.snd.fst : Int) - v_54.snd.fst).toNat)))
            (br (what != (4 : Int))
              ((k (AV.bool (bif true then v_54.fst == (0 : Int) else false)) [] []))
              ((
                ((0 : Int) ≤ what) ∧
                (what ≤ (255 : Int))) ∧
               (
                ((-9223372036854775808 : Int) ≤ p) ∧
                (p ≤ (9223372036854775807 : Int))) ∧
               (
                ∀ (e_82 : Int),
                (e_82 = wE (0 : Nat) (List.take v_54.snd.snd.fst (List.drop held.length v_54.snd.snd.snd)).length what p) →
                (e_82 = (2 : Int) ∨ e_82 = (3 : Int)) →
                ∀ (n85 : Int),
                (n85 = (↑ins.length : Int)) →
                ∀ (n87 : Int),
                (n87 = min n85 (1 : Int)) →
                (k (AV.bool (bif bif bif true then v_54.fst == n87 else false then e_82 == (0 : Int) else false then { data := #[] : ByteArray }.data.toList == { data := ins.toArray : ByteArray }.data.toList else false)) [] [])) ∧
               (
                (wE (0 : Nat) (List.take v_54.snd.snd.fst (List.drop held.length v_54.snd.snd.snd)).length what p = (0 : Int)) →
                (what = (3 : Int)) →
                ∀ (n91 : Int),
                (n91 = (↑ins.length : Int)) →
                ∀ (n93 : Int),
                (n93 = min n91 (1 : Int)) →
                (k (AV.bool (bif bif bif true then v_54.fst == n93 else false then (0 : Int) == (0 : Int) else false then { data := (List.take (0 : Nat) (List.drop (0 : Nat) [])).toArray : ByteArray }.data.toList == { data := ins.toArray : ByteArray }.data.toList else false)) [] [])) ∧
               ((wE (0 : Nat) (List.take v_54.snd.snd.fst (List.drop held.length v_54.snd.snd.snd)).length what p = (0 : Int)) →
               (what ≠ (3 : Int)) →
               ∀ (ys_97 : List UInt8),
               ∀ (n_98 : Nat),
               (ys_97 = [] ++ wOut (List.take v_54.snd.snd.fst (List.drop held.length v_54.snd.snd.snd)) what p) →
               (ys_97.length = n_98) →
               ∀ (n101 : Int),
               (n101 = (↑ins.length : Int)) →
               ∀ (n103 : Int),
               (n103 = min n101 (1 : Int)) →
               (k (AV.bool (bif bif bif true then v_54.fst == n103 else false then (0 : Int) == (0 : Int) else false then { data := (List.take n_98 (List.drop (0 : Nat) ys_97)).toArray : ByteArray }.data.toList == { data := ins.toArray : ByteArray }.data.toList else false)) [] [])))))))) ∧
    ((wE held.length ins.length what p = (0 : Int)) →
    (what ≠ (3 : Int)) →
    ∀ (ys_105 : List UInt8),
    ∀ (n_106 : Nat),
    (ys_105 = held ++ wOut ins what p) →
    (ys_105.length = n_106) →
    ∀ (n109 : Int),
    (n109 = (↑n_106 : Int)) →
    ((-9223372036854775808 : Int) ≤ n109 ∧ n109 ≤ (9223372036854775807 : Int)) →
    ∀ (n112 : Int),
    (n112 = (↑held.length : Int)) →
    ((-9223372036854775808 : Int) ≤ n112 ∧ n112 ≤ (9223372036854775807 : Int)) →
    ∀ (n115 : Int),
    (n115 = (↑held.length : Int)) →
    (
     (decide (n109 < n112) = false) →
     ((0 : Int) ≤ n115) ∧
     (n115 ≤ (↑n_106 : Int))) ∧
    br (bif decide (n109 < n112) then true else !{ data := (List.take n115.toNat (List.drop (0 : Nat) ys_105)).toArray : ByteArray }.data.toList == { data := held.toArray : ByteArray }.data.toList)
     ((k (AV.bool false) [] []))
     (∀ (n118 : Int),
      (n118 = (↑held.length : Int)) →
      ((-9223372036854775808 : Int) ≤ n118 ∧ n118 ≤ (9223372036854775807 : Int)) →
      ((0 : Int) ≤ n118) ∧
      (n118 ≤ (↑n_106 : Int)) ∧
      br (what == (3 : Int))
       (∀ (n121 : Int),
        (n121 = (↑(n_106 - n118.toNat) : Int)) →
        (k (AV.bool (bif bif true then n121 == (0 : Int) else false then { data := #[] : ByteArray }.data.toList == { data := ins.toArray : ByteArray }.data.toList else false)) [] []))
       (∀ (n123 : Int),
        (n123 = (0 : Int)) →
        ((-9223372036854775808 : Int) ≤ n123 ∧ n123 ≤ (9223372036854775807 : Int)) →
        ∀ (n126 : Int),
        (n126 = (↑(n_106 - n118.toNat) : Int)) →
        ∀ (n128 : Int),
        (n128 = (↑ins.length : Int)) →
        ∀ (n130 : Int),
        (n130 = max n128 (1 : Int)) →
        (
         ((n123 != (0 : Int)) = false) →
         (n130 ≠ (0 : Int))) ∧
        ∀ (n133 : Int),
        (n133 = n126.tmod n130) →
        ∀ (n135 : Int),
        (n135 = (↑(n_106 - n118.toNat) : Int)) →
        ∀ (n137 : Int),
        (n137 = (↑ins.length : Int)) →
        ∀ (n139 : Int),
        (n139 = IntKind.i64.wrap ((2 : Int) * n137)) →
        br (bif bif n123 != (0 : Int) then true else n133 != (0 : Int) then true else decide (n135 > n139))
         ((k (AV.bool false) [] []))
         ((
           ∃ (v : Int × Int × Nat × List UInt8),
           (ins = ins) ∧
           (what = what) ∧
           (p = p) ∧
           (true = true) ∧
           ((0 : Nat) + n118.toNat = held.length) ∧
           (n_106 - n118.toNat = v.snd.snd.fst) ∧
           ((0 : Int) = v.fst) ∧
           ((0 : Int) = v.snd.fst) ∧
           (ys_105 = v.snd.snd.snd) ∧
           (
            ((0 : Int) ≤ v.snd.fst) ∧
            (v.snd.fst ≤ (↑v.snd.snd.fst : Int))) ∧
           (v.snd.snd.snd = held ++ wOut ins what p) ∧
           (v.snd.snd.fst = (wOut ins what p).length) ∧
           (v.snd.snd.snd.length = held.length + v.snd.snd.fst) ∧
           (v.snd.snd.fst ≤ (40000 : Nat)) ∧
           (
            (ins.length = (0 : Nat)) →
            (v.snd.snd.fst = (0 : Nat))) ∧
           (v.fst = df (wOut ins what p) ins v.snd.fst.toNat) ∧
           (
            ((0 : Int) ≤ v.fst) ∧
            (v.fst ≤ v.snd.fst)) ∧
           (what ≠ (3 : Int)) ∧
           (wE held.length ins.length what p = (0 : Int))) ∧
          ∀ (v_142 : Int × Int × Nat × List UInt8),
          (((0 : Int) ≤ v_142.snd.fst ∧ v_142.snd.fst ≤ (↑v_142.snd.snd.fst : Int)) ∧ v_142.snd.snd.snd = held ++ wOut ins what p ∧ v_142.snd.snd.fst = (wOut ins what p).length ∧ v_142.snd.snd.snd.length = held.length + v_142.snd.snd.fst ∧ v_142.snd.snd.fst ≤ (40000 : Nat) ∧ (ins.length = (0 : Nat) → v_142.snd.snd.fst = (0 : Nat)) ∧ v_142.fst = df (wOut ins what p) ins v_142.snd.fst.toNat ∧ ((0 : Int) ≤ v_142.fst ∧ v_142.fst ≤ v_142.snd.fst) ∧ what ≠ (3 : Int) ∧ wE held.length ins.length what p = (0 : Int)) →
          ∀ (n144 : Int),
          (n144 = (↑v_142.snd.snd.fst : Int)) →
          ((-9223372036854775808 : Int) ≤ n144 ∧ n144 ≤ (9223372036854775807 : Int)) →
          br (decide (v_142.snd.fst < n144))
           (((0 : Int) ≤ v_142.snd.fst) ∧
            (v_142.snd.fst < (↑v_142.snd.snd.fst : Int)) ∧
            (held.length + v_142.snd.fst.toNat < v_142.snd.snd.snd.length) ∧
            ∀ (n147 : Int),
            (n147 = (↑(v_142.snd.snd.snd.getD (held.length + v_142.snd.fst.toNat) (0 : UInt8)).toNat : Int)) →
            ((0 : Int) ≤ n147 ∧ n147 ≤ (255 : Int)) →
            ∀ (n150 : Int),
            (n150 = (↑ins.length : Int)) →
            ((-9223372036854775808 : Int) ≤ n150 ∧ n150 ≤ (9223372036854775807 : Int)) →
            (n150 ≠ (0 : Int)) ∧
            ∀ (n153 : Int),
            (n153 = v_142.snd.fst.tmod n150) →
            ((-9223372036854775808 : Int) ≤ n153 ∧ n153 ≤ (9223372036854775807 : Int)) →
            ((0 : Int) ≤ n153) ∧
            (n153 < (↑ins.length : Int)) ∧
            ∀ (n156 : Int),
            (n156 = (↑(ins.getD n153.toNat (0 : UInt8)).toNat : Int)) →
            ((0 : Int) ≤ n156 ∧ n156 ≤ (255 : Int)) →
            br (n147 != n156)
             (∀ (n159 : Int),
              (n159 = IntKind.i64.wrap (v_142.fst + (1 : Int))) →
              ((-9223372036854775808 : Int) ≤ n159 ∧ n159 ≤ (9223372036854775807 : Int)) →
              ∀ (n162 : Int),
              (n162 = IntKind.i64.wrap (v_142.snd.fst + (1 : Int))) →
              ((-9223372036854775808 : Int) ≤ n162 ∧ n162 ≤ (9223372036854775807 : Int)) →
              ∃ (v' : Int × Int × Nat × List UInt8),
              (ins = ins) ∧
              (what = what) ∧
              (p = p) ∧
              (true = true) ∧
              (held.length = held.length) ∧
              (v_142.snd.snd.fst = v'.snd.snd.fst) ∧
              (n159 = v'.fst) ∧
              (n162 = v'.snd.fst) ∧
              (v_142.snd.snd.snd = v'.snd.snd.snd) ∧
              (
               (
                ((0 : Int) ≤ v'.snd.fst) ∧
                (v'.snd.fst ≤ (↑v'.snd.snd.fst : Int))) ∧
               (v'.snd.snd.snd = held ++ wOut ins what p) ∧
               (v'.snd.snd.fst = (wOut ins what p).length) ∧
               (v'.snd.snd.snd.length = held.length + v'.snd.snd.fst) ∧
               (v'.snd.snd.fst ≤ (40000 : Nat)) ∧
               (
                (ins.length = (0 : Nat)) →
                (v'.snd.snd.fst = (0 : Nat))) ∧
               (v'.fst = df (wOut ins what p) ins v'.snd.fst.toNat) ∧
               (
                ((0 : Int) ≤ v'.fst) ∧
                (v'.fst ≤ v'.snd.fst)) ∧
               (what ≠ (3 : Int)) ∧
               (wE held.length ins.length what p = (0 : Int))) ∧
              (((↑v'.snd.snd.fst : Int) - v'.snd.fst).toNat < ((↑v_142.snd.snd.fst : Int) - v_142.snd.fst).toNat))
             (∀ (n166 : Int),
              (n166 = IntKind.i64.wrap (v_142.snd.fst + (1 : Int))) →
              ((-9223372036854775808 : Int) ≤ n166 ∧ n166 ≤ (9223372036854775807 : Int)) →
              ∃ (v' : Int × Int × Nat × List UInt8),
              (ins = ins) ∧
              (what = what) ∧
              (p = p) ∧
              (true = true) ∧
              (held.length = held.length) ∧
              (v_142.snd.snd.fst = v'.snd.snd.fst) ∧
              (v_142.fst = v'.fst) ∧
              (n166 = v'.snd.fst) ∧
              (v_142.snd.snd.snd = v'.snd.snd.snd) ∧
              (
               (
                ((0 : Int) ≤ v'.snd.fst) ∧
                (v'.snd.fst ≤ (↑v'.snd.snd.fst : Int))) ∧
               (v'.snd.snd.snd = held ++ wOut ins what p) ∧
               (v'.snd.snd.fst = (wOut ins what p).length) ∧
               (v'.snd.snd.snd.length = held.length + v'.snd.snd.fst) ∧
               (v'.snd.snd.fst ≤ (40000 : Nat)) ∧
               (
                (ins.length = (0 : Nat)) →
                (v'.snd.snd.fst = (0 : Nat))) ∧
               (v'.fst = df (wOut ins what p) ins v'.snd.fst.toNat) ∧
               (
                ((0 : Int) ≤ v'.fst) ∧
                (v'.fst ≤ v'.snd.fst)) ∧
               (what ≠ (3 : Int)) ∧
               (wE held.length ins.length what p = (0 : Int))) ∧
              (((↑v'.snd.snd.fst : Int) - v'.snd.fst).toNat < ((↑v_142.snd.snd.fst : Int) - v_142.snd.fst).toNat)))
           (br (what != (4 : Int))
             ((k (AV.bool (bif true then v_142.fst == (0 : Int) else false)) [] []))
             ((
               ((0 : Int) ≤ what) ∧
               (what ≤ (255 : Int))) ∧
              (
               ((-9223372036854775808 : Int) ≤ p) ∧
               (p ≤ (9223372036854775807 : Int))) ∧
              (
               ∀ (e_170 : Int),
               (e_170 = wE (0 : Nat) (List.take v_142.snd.snd.fst (List.drop held.length v_142.snd.snd.snd)).length what p) →
               (e_170 = (2 : Int) ∨ e_170 = (3 : Int)) →
               ∀ (n173 : Int),
               (n173 = (↑ins.length : Int)) →
               ∀ (n175 : Int),
               (n175 = min n173 (1 : Int)) →
               (k (AV.bool (bif bif bif true then v_142.fst == n175 else false then e_170 == (0 : Int) else false then { data := #[] : ByteArray }.data.toList == { data := ins.toArray : ByteArray }.data.toList else false)) [] [])) ∧
              (
               (wE (0 : Nat) (List.take v_142.snd.snd.fst (List.drop held.length v_142.snd.snd.snd)).length what p = (0 : Int)) →
               (what = (3 : Int)) →
               ∀ (n179 : Int),
               (n179 = (↑ins.length : Int)) →
               ∀ (n181 : Int),
               (n181 = min n179 (1 : Int)) →
               (k (AV.bool (bif bif bif true then v_142.fst == n181 else false then (0 : Int) == (0 : Int) else false then { data := (List.take (0 : Nat) (List.drop (0 : Nat) [])).toArray : ByteArray }.data.toList == { data := ins.toArray : ByteArray }.data.toList else false)) [] [])) ∧
              ((wE (0 : Nat) (List.take v_142.snd.snd.fst (List.drop held.length v_142.snd.snd.snd)).length what p = (0 : Int)) →
              (what ≠ (3 : Int)) →
              ∀ (ys_185 : List UInt8),
              ∀ (n_186 : Nat),
              (ys_185 = [] ++ wOut (List.take v_142.snd.snd.fst (List.drop held.length v_142.snd.snd.snd)) what p) →
              (ys_185.length = n_186) →
              ∀ (n189 : Int),
              (n189 = (↑ins.length : Int)) →
              ∀ (n191 : Int),
              (n191 = min n189 (1 : Int)) →
              (k (AV.bool (bif bif bif true then v_142.fst == n191 else false then (0 : Int) == (0 : Int) else false then { data := (List.take n_186 (List.drop (0 : Nat) ys_185)).toArray : ByteArray }.data.toList == { data := ins.toArray : ByteArray }.data.toList else false)) [] []))))))))) := by
  intro n1
  intro q1 -- n1 = (↑held.length : Int)
  intro ⟨l1, u1⟩ -- (-9223372036854775808 : Int) ≤ n1 ∧ n1 ≤ (9223372036854775807 : Int)
  intro n4
  intro q4 -- n4 = (↑ins.length : Int)
  refine br_intro (fun c1 => ?_) (fun c1 => ?_) -- bif decide (n1 > (20000 : Int)) then true else decide (n4 > (20000 : Int))
  · -- yes
    simp at c1 -- (20000 : Int) < n1 ∨ (20000 : Int) < n4
    exact by exact hk -- k (AV.bool true) [] []
  · -- no
    simp at c1 -- n1 ≤ (20000 : Int) ∧ n4 ≤ (20000 : Int)
    refine ⟨by exact ⟨by assumption, by assumption⟩, ?_⟩ -- (0 : Int) ≤ what ∧ what ≤ (255 : Int)
    refine ⟨by exact ⟨by assumption, by assumption⟩, ?_⟩ -- (-9223372036854775808 : Int) ≤ p ∧ p ≤ (9223372036854775807 : Int)
    refine ⟨?_, ?_⟩
    · -- left
      intro e_6
      intro h2 -- e_6 = wE held.length ins.length what p
      intro h3 -- e_6 = (2 : Int) ∨ e_6 = (3 : Int)
      refine br_intro (fun c4 => ?_) (fun c4 => ?_) -- e_6 != (0 : Int)
      · -- yes
        simp at c4 -- ¬e_6 = (0 : Int)
        intro n9
        intro q9 -- n9 = (0 : Int)
        intro n11
        intro q11 -- n11 = (0 : Int)
        exact by exact k_true hk (by simp only [*]; simp) -- k (AV.bool (bif bif true then n9 == (0 : Int) else false then n11 == (0 : Int) else false)) [] []
      · -- no
        simp at c4 -- e_6 = (0 : Int)
        exfalso; omega
    refine ⟨?_, ?_⟩
    · -- left
      intro q11 -- wE held.length ins.length what p = (0 : Int)
      intro q11 -- what = (3 : Int)
      intro n21
      intro q21 -- n21 = (↑held.length : Int)
      intro ⟨l21, u21⟩ -- (-9223372036854775808 : Int) ≤ n21 ∧ n21 ≤ (9223372036854775807 : Int)
      intro n24
      intro q24 -- n24 = (↑held.length : Int)
      intro ⟨l24, u24⟩ -- (-9223372036854775808 : Int) ≤ n24 ∧ n24 ≤ (9223372036854775807 : Int)
      intro n27
      intro q27 -- n27 = (↑held.length : Int)
      refine ⟨?_, ?_⟩
      · -- left
        intro q27 -- decide (n21 < n24) = false
        simp at q27 -- n24 ≤ n21
        refine ⟨by first | omega | (dsimp only; omega), ?_⟩ -- (0 : Int) ≤ n27
        exact by omega -- n27 ≤ (↑held.length : Int)
      refine br_intro (fun c5 => ?_) (fun c5 => ?_) -- bif decide (n21 < n24) then true else !{ data := (List.take n27.toNat (List.drop (0 : Nat) held)).toArray : ByteArray }.data.toList == { data := held.toArray : ByteArray }.data.toList
      · -- yes
        simp at c5 -- n21 < n24 ∨ ¬List.take n27.toNat held = held
        -- k (AV.bool false) [] []
        exfalso
        rcases c5 with c | c
        · omega
        · exact c (List.take_of_length_le (by omega))
      · -- no
        simp at c5 -- n24 ≤ n21 ∧ List.take n27.toNat held = held
        intro n30
        intro q30 -- n30 = (↑held.length : Int)
        intro ⟨l30, u30⟩ -- (-9223372036854775808 : Int) ≤ n30 ∧ n30 ≤ (9223372036854775807 : Int)
        refine ⟨by first | omega | (dsimp only; omega), ?_⟩ -- (0 : Int) ≤ n30
        refine ⟨by first | omega | (dsimp only; omega), ?_⟩ -- n30 ≤ (↑held.length : Int)
        refine br_intro (fun c6 => ?_) (fun c6 => ?_) -- what == (3 : Int)
        · -- yes
          simp at c6 -- what = (3 : Int)
          intro n33
          intro q33 -- n33 = (↑(held.length - n30.toNat) : Int)
          exact by exact k_true hk (by simp only [*]; simp) -- k (AV.bool (bif bif true then n33 == (0 : Int) else false then { data := (List.take ins.length (List.drop (0 : Nat) ins)).toArray : ByteArray }.data.toList == { data := ins.toArray : ByteArray }.data.toList else false)) [] []
        · -- no
          simp at c6 -- ¬what = (3 : Int)
          exfalso; omega
    intro q33 -- wE held.length ins.length what p = (0 : Int)
    intro q33 -- what ≠ (3 : Int)
    intro ys_105
    intro n_106
    intro h7 -- ys_105 = held ++ wOut ins what p
    intro h8 -- ys_105.length = n_106
    intro n109
    intro q109 -- n109 = (↑n_106 : Int)
    intro ⟨l109, u109⟩ -- (-9223372036854775808 : Int) ≤ n109 ∧ n109 ≤ (9223372036854775807 : Int)
    intro n112
    intro q112 -- n112 = (↑held.length : Int)
    intro ⟨l112, u112⟩ -- (-9223372036854775808 : Int) ≤ n112 ∧ n112 ≤ (9223372036854775807 : Int)
    intro n115
    intro q115 -- n115 = (↑held.length : Int)
    refine ⟨?_, ?_⟩
    · -- left
      intro q115 -- decide (n109 < n112) = false
      simp at q115 -- n112 ≤ n109
      refine ⟨by first | omega | (dsimp only; omega), ?_⟩ -- (0 : Int) ≤ n115
      exact by omega -- n115 ≤ (↑n_106 : Int)
    refine br_intro (fun c9 => ?_) (fun c9 => ?_) -- bif decide (n109 < n112) then true else !{ data := (List.take n115.toNat (List.drop (0 : Nat) ys_105)).toArray : ByteArray }.data.toList == { data := held.toArray : ByteArray }.data.toList
    · -- yes
      simp at c9 -- n109 < n112 ∨ ¬List.take n115.toNat ys_105 = held
      -- k (AV.bool false) [] []
      exfalso
      have e : List.take n115.toNat ys_105 = held := by rw [h7, show n115.toNat = held.length by omega, List.take_left]
      have L : ys_105.length = held.length + (wOut ins what p).length := by rw [h7, List.length_append]
      rcases c9 with c | c
      · omega
      · exact c e
    · -- no
      simp at c9 -- n112 ≤ n109 ∧ List.take n115.toNat ys_105 = held
      intro n118
      intro q118 -- n118 = (↑held.length : Int)
      intro ⟨l118, u118⟩ -- (-9223372036854775808 : Int) ≤ n118 ∧ n118 ≤ (9223372036854775807 : Int)
      refine ⟨by first | omega | (dsimp only; omega), ?_⟩ -- (0 : Int) ≤ n118
      refine ⟨by first | omega | (dsimp only; omega), ?_⟩ -- n118 ≤ (↑n_106 : Int)
      refine br_intro (fun c10 => ?_) (fun c10 => ?_) -- what == (3 : Int)
      · -- yes
        simp at c10 -- what = (3 : Int)
        exfalso; omega
      · -- no
        simp at c10 -- ¬what = (3 : Int)
        intro n123
        intro q123 -- n123 = (0 : Int)
        intro ⟨l123, u123⟩ -- (-9223372036854775808 : Int) ≤ n123 ∧ n123 ≤ (9223372036854775807 : Int)
        intro n126
        intro q126 -- n126 = (↑(n_106 - n118.toNat) : Int)
        intro n128
        intro q128 -- n128 = (↑ins.length : Int)
        intro n130
        intro q130 -- n130 = max n128 (1 : Int)
        refine ⟨?_, ?_⟩
        · -- left
          intro q130 -- (n123 != (0 : Int)) = false
          simp at q130 -- n123 = (0 : Int)
          exact by omega -- n130 ≠ (0 : Int)
        intro n133
        intro q133 -- n133 = n126.tmod n130
        rw [Int.tmod_eq_emod_of_nonneg (by omega)] at q133
        intro n135
        intro q135 -- n135 = (↑(n_106 - n118.toNat) : Int)
        intro n137
        intro q137 -- n137 = (↑ins.length : Int)
        intro n139
        intro q139 -- n139 = IntKind.i64.wrap ((2 : Int) * n137)
        rw [IntKind.wrap_i64] at q139
        refine br_intro (fun c11 => ?_) (fun c11 => ?_) -- bif bif n123 != (0 : Int) then true else n133 != (0 : Int) then true else decide (n135 > n139)
        · -- yes
          simp at c11 -- (¬n123 = (0 : Int) ∨ ¬n133 = (0 : Int)) ∨ n139 < n135
          -- k (AV.bool false) [] []
          exfalso
          have L : ys_105.length = held.length + (wOut ins what p).length := by rw [h7, List.length_append]
          have M := wOut_mod ins what p
          rcases c11 with (c | c) | c
          · exact c q123
          · apply c
            rw [q133, q130, q128, show n126 = ((wOut ins what p).length : Int) by omega]
            exact M.1
          · omega
        · -- no
          simp at c11 -- (n123 = (0 : Int) ∧ n133 = (0 : Int)) ∧ n135 ≤ n139
          refine ⟨?_, ?_⟩
          · -- left
            refine ⟨((0 : Int), (0 : Int), n_106 - n118.toNat, ys_105), ?_⟩
            refine ⟨by first | with_reducible rfl | rfl, ?_⟩ -- ins = ins
            refine ⟨by first | with_reducible rfl | rfl, ?_⟩ -- what = what
            refine ⟨by first | with_reducible rfl | rfl, ?_⟩ -- p = p
            refine ⟨by first | with_reducible rfl | rfl, ?_⟩ -- true = true
            refine ⟨by show (0 : Nat) + n118.toNat = held.length; omega, ?_⟩ -- (0 : Nat) + n118.toNat = held.length
            refine ⟨by first | with_reducible rfl | rfl, ?_⟩ -- n_106 - n118.toNat = n_106 - n118.toNat
            refine ⟨by first | with_reducible rfl | rfl, ?_⟩ -- (0 : Int) = (0 : Int)
            refine ⟨by first | with_reducible rfl | rfl, ?_⟩ -- (0 : Int) = (0 : Int)
            refine ⟨by first | with_reducible rfl | rfl, ?_⟩ -- ys_105 = ys_105
            refine ⟨by first | omega | (dsimp only; omega), ?_⟩ -- (0 : Int) ≤ (0 : Int) ∧ (0 : Int) ≤ (↑(n_106 - n118.toNat) : Int)
            refine ⟨by show ys_105 = held ++ wOut ins what p; assumption, ?_⟩ -- ys_105 = held ++ wOut ins what p
            have h12 : n_106 - n118.toNat = (wOut ins what p).length := by
              have L : ys_105.length = held.length + (wOut ins what p).length := by rw [h7, List.length_append]
              omega
            refine ⟨h12, ?_⟩
            refine ⟨by show ys_105.length = held.length + (n_106 - n118.toNat); omega, ?_⟩ -- ys_105.length = held.length + (n_106 - n118.toNat)
            refine ⟨by show n_106 - n118.toNat ≤ (40000 : Nat); omega, ?_⟩ -- n_106 - n118.toNat ≤ (40000 : Nat)
            refine ⟨?_, ?_⟩
            · -- left
              intro q139 -- ins.length = (0 : Nat)
              exact by show n_106 - n118.toNat = (0 : Nat); omega -- n_106 - n118.toNat = (0 : Nat)
            refine ⟨by rfl, ?_⟩ -- (0 : Int) = df (wOut ins what p) ins (Int.toNat (0 : Int))
            refine ⟨by first | omega | (dsimp only; omega), ?_⟩ -- (0 : Int) ≤ (0 : Int) ∧ (0 : Int) ≤ (0 : Int)
            refine ⟨by show what ≠ (3 : Int); assumption, ?_⟩ -- what ≠ (3 : Int)
            exact by show wE held.length ins.length what p = (0 : Int); assumption -- wE held.length ins.length what p = (0 : Int)
          intro v_142
          intro h13 -- ((0 : Int) ≤ v_142.snd.fst ∧ v_142.snd.fst ≤ (↑v_142.snd.snd.fst : Int)) ∧ v_142.snd.snd.snd = held ++ wOut ins what p ∧ v_142.snd.snd.fst = (wOut ins what p).length ∧ v_142.snd.snd.snd.length = held.length + v_142.snd.snd.fst ∧ v_142.snd.snd.fst ≤ (40000 : Nat) ∧ (ins.length = (0 : Nat) → v_142.snd.snd.fst = (0 : Nat)) ∧ v_142.fst = df (wOut ins what p) ins v_142.snd.fst.toNat ∧ ((0 : Int) ≤ v_142.fst ∧ v_142.fst ≤ v_142.snd.fst) ∧ what ≠ (3 : Int) ∧ wE held.length ins.length what p = (0 : Int)
          intro n144
          intro q144 -- n144 = (↑v_142.snd.snd.fst : Int)
          intro ⟨l144, u144⟩ -- (-9223372036854775808 : Int) ≤ n144 ∧ n144 ≤ (9223372036854775807 : Int)
          refine brd (fun c14 => ?_) (fun c14 => ?_) -- decide (v_142.snd.fst < n144)
          · -- yes
            refine ⟨by first | omega | (dsimp only; omega), ?_⟩ -- (0 : Int) ≤ v_142.snd.fst
            refine ⟨by first | omega | (dsimp only; omega), ?_⟩ -- v_142.snd.fst < (↑v_142.snd.snd.fst : Int)
            refine ⟨by first | omega | (dsimp only; omega), ?_⟩ -- held.length + v_142.snd.fst.toNat < v_142.snd.snd.snd.length
            intro n147
            intro q147 -- n147 = (↑(v_142.snd.snd.snd.getD (held.length + v_142.snd.fst.toNat) (0 : UInt8)).toNat : Int)
            intro ⟨l147, u147⟩ -- (0 : Int) ≤ n147 ∧ n147 ≤ (255 : Int)
            intro n150
            intro q150 -- n150 = (↑ins.length : Int)
            intro ⟨l150, u150⟩ -- (-9223372036854775808 : Int) ≤ n150 ∧ n150 ≤ (9223372036854775807 : Int)
            refine ⟨by first | omega | (dsimp only; omega), ?_⟩ -- n150 ≠ (0 : Int)
            intro n153
            intro q153 -- n153 = v_142.snd.fst.tmod n150
            rw [Int.tmod_eq_emod_of_nonneg (by omega)] at q153
            intro ⟨l153, u153⟩ -- (-9223372036854775808 : Int) ≤ n153 ∧ n153 ≤ (9223372036854775807 : Int)
            have h15 : (0 : Int) ≤ n153 := by
              rw [q153]; exact Int.emod_nonneg _ (by omega)
            refine ⟨h15, ?_⟩
            have h16 : n153 < (↑ins.length : Int) := by
              rw [q153, q150]; exact Int.emod_lt_of_pos _ (by omega)
            refine ⟨h16, ?_⟩
            intro n156
            intro q156 -- n156 = (↑(ins.getD n153.toNat (0 : UInt8)).toNat : Int)
            intro ⟨l156, u156⟩ -- (0 : Int) ≤ n156 ∧ n156 ≤ (255 : Int)
            refine br_intro (fun c17 => ?_) (fun c17 => ?_) -- n147 != n156
            · -- yes
              simp at c17 -- ¬n147 = n156
              intro n159
              intro q159 -- n159 = IntKind.i64.wrap (v_142.fst + (1 : Int))
              rw [IntKind.wrap_i64] at q159
              intro ⟨l159, u159⟩ -- (-9223372036854775808 : Int) ≤ n159 ∧ n159 ≤ (9223372036854775807 : Int)
              intro n162
              intro q162 -- n162 = IntKind.i64.wrap (v_142.snd.fst + (1 : Int))
              rw [IntKind.wrap_i64] at q162
              intro ⟨l162, u162⟩ -- (-9223372036854775808 : Int) ≤ n162 ∧ n162 ≤ (9223372036854775807 : Int)
              refine ⟨(n159, n162, v_142.snd.snd.fst, v_142.snd.snd.snd), ?_⟩
              refine ⟨by first | with_reducible rfl | rfl, ?_⟩ -- ins = ins
              refine ⟨by first | with_reducible rfl | rfl, ?_⟩ -- what = what
              refine ⟨by first | with_reducible rfl | rfl, ?_⟩ -- p = p
              refine ⟨by first | with_reducible rfl | rfl, ?_⟩ -- true = true
              refine ⟨by first | with_reducible rfl | rfl, ?_⟩ -- held.length = held.length
              refine ⟨by first | with_reducible rfl | rfl, ?_⟩ -- v_142.snd.snd.fst = v_142.snd.snd.fst
              refine ⟨by first | with_reducible rfl | rfl, ?_⟩ -- n159 = n159
              refine ⟨by first | with_reducible rfl | rfl, ?_⟩ -- n162 = n162
              refine ⟨by first | with_reducible rfl | rfl, ?_⟩ -- v_142.snd.snd.snd = v_142.snd.snd.snd
              refine ⟨?_, ?_⟩
              · -- left
                refine ⟨by first | omega | (dsimp only; omega), ?_⟩ -- (0 : Int) ≤ n162 ∧ n162 ≤ (↑v_142.snd.snd.fst : Int)
                have h18 : v_142.snd.snd.snd = held ++ wOut ins what p := by
                  exact h13.2.1
                refine ⟨h18, ?_⟩
                refine ⟨by show v_142.snd.snd.fst = (wOut ins what p).length; omega, ?_⟩ -- v_142.snd.snd.fst = (wOut ins what p).length
                refine ⟨by show v_142.snd.snd.snd.length = held.length + v_142.snd.snd.fst; omega, ?_⟩ -- v_142.snd.snd.snd.length = held.length + v_142.snd.snd.fst
                refine ⟨by show v_142.snd.snd.fst ≤ (40000 : Nat); omega, ?_⟩ -- v_142.snd.snd.fst ≤ (40000 : Nat)
                refine ⟨?_, ?_⟩
                · -- left
                  intro h19 -- ins.length = (0 : Nat)
                  exact by show v_142.snd.snd.fst = (0 : Nat); omega -- v_142.snd.snd.fst = (0 : Nat)
                have h20 : n159 = df (wOut ins what p) ins n162.toNat := by
                  have e1 : n147 = ((wOut ins what p).getD v_142.snd.fst.toNat 0).toNat := by rw [q147, h13.2.1, app_get]
                  have e2 : n156 = (ins.getD (v_142.snd.fst.toNat % ins.length) 0).toNat := by rw [q156, show n153.toNat = v_142.snd.fst.toNat % ins.length by rw [q153, q150, mod_nat (by omega)]]
                  rw [show n162 = v_142.snd.fst + 1 by omega, df_next _ _ (by omega), ← h13.2.2.2.2.2.2.1, if_neg (fun e => c17 (by rw [e1, e2, e]))]
                  omega
                refine ⟨h20, ?_⟩
                refine ⟨by first | omega | (dsimp only; omega), ?_⟩ -- (0 : Int) ≤ n159 ∧ n159 ≤ n162
                refine ⟨by show what ≠ (3 : Int); assumption, ?_⟩ -- what ≠ (3 : Int)
                exact by show wE held.length ins.length what p = (0 : Int); assumption -- wE held.length ins.length what p = (0 : Int)
              exact by show ((↑v_142.snd.snd.fst : Int) - n162).toNat < ((↑v_142.snd.snd.fst : Int) - v_142.snd.fst).toNat; omega -- ((↑v_142.snd.snd.fst : Int) - n162).toNat < ((↑v_142.snd.snd.fst : Int) - v_142.snd.fst).toNat
            · -- no
              simp at c17 -- n147 = n156
              intro n166
              intro q166 -- n166 = IntKind.i64.wrap (v_142.snd.fst + (1 : Int))
              rw [IntKind.wrap_i64] at q166
              intro ⟨l166, u166⟩ -- (-9223372036854775808 : Int) ≤ n166 ∧ n166 ≤ (9223372036854775807 : Int)
              refine ⟨(v_142.fst, n166, v_142.snd.snd.fst, v_142.snd.snd.snd), ?_⟩
              refine ⟨by first | with_reducible rfl | rfl, ?_⟩ -- ins = ins
              refine ⟨by first | with_reducible rfl | rfl, ?_⟩ -- what = what
              refine ⟨by first | with_reducible rfl | rfl, ?_⟩ -- p = p
              refine ⟨by first | with_reducible rfl | rfl, ?_⟩ -- true = true
              refine ⟨by first | with_reducible rfl | rfl, ?_⟩ -- held.length = held.length
              refine ⟨by first | with_reducible rfl | rfl, ?_⟩ -- v_142.snd.snd.fst = v_142.snd.snd.fst
              refine ⟨by first | with_reducible rfl | rfl, ?_⟩ -- v_142.fst = v_142.fst
              refine ⟨by first | with_reducible rfl | rfl, ?_⟩ -- n166 = n166
              refine ⟨by first | with_reducible rfl | rfl, ?_⟩ -- v_142.snd.snd.snd = v_142.snd.snd.snd
              refine ⟨?_, ?_⟩
              · -- left
                refine ⟨by first | omega | (dsimp only; omega), ?_⟩ -- (0 : Int) ≤ n166 ∧ n166 ≤ (↑v_142.snd.snd.fst : Int)
                have h21 : v_142.snd.snd.snd = held ++ wOut ins what p := by
                  exact h13.2.1
                refine ⟨h21, ?_⟩
                refine ⟨by show v_142.snd.snd.fst = (wOut ins what p).length; omega, ?_⟩ -- v_142.snd.snd.fst = (wOut ins what p).length
                refine ⟨by show v_142.snd.snd.snd.length = held.length + v_142.snd.snd.fst; omega, ?_⟩ -- v_142.snd.snd.snd.length = held.length + v_142.snd.snd.fst
                refine ⟨by show v_142.snd.snd.fst ≤ (40000 : Nat); omega, ?_⟩ -- v_142.snd.snd.fst ≤ (40000 : Nat)
                refine ⟨?_, ?_⟩
                · -- left
                  intro h22 -- ins.length = (0 : Nat)
                  exact by show v_142.snd.snd.fst = (0 : Nat); omega -- v_142.snd.snd.fst = (0 : Nat)
                have h23 : v_142.fst = df (wOut ins what p) ins n166.toNat := by
                  have e1 : n147 = ((wOut ins what p).getD v_142.snd.fst.toNat 0).toNat := by rw [q147, h13.2.1, app_get]
                  have e2 : n156 = (ins.getD (v_142.snd.fst.toNat % ins.length) 0).toNat := by rw [q156, show n153.toNat = v_142.snd.fst.toNat % ins.length by rw [q153, q150, mod_nat (by omega)]]
                  rw [show n166 = v_142.snd.fst + 1 by omega, df_next _ _ (by omega), ← h13.2.2.2.2.2.2.1, if_pos (UInt8.toNat_inj.1 (by omega))]
                  omega
                refine ⟨h23, ?_⟩
                refine ⟨by first | omega | (dsimp only; omega), ?_⟩ -- (0 : Int) ≤ v_142.fst ∧ v_142.fst ≤ n166
                refine ⟨by show what ≠ (3 : Int); assumption, ?_⟩ -- what ≠ (3 : Int)
                exact by show wE held.length ins.length what p = (0 : Int); assumption -- wE held.length ins.length what p = (0 : Int)
              exact by show ((↑v_142.snd.snd.fst : Int) - n166).toNat < ((↑v_142.snd.snd.fst : Int) - v_142.snd.fst).toNat; omega -- ((↑v_142.snd.snd.fst : Int) - n166).toNat < ((↑v_142.snd.snd.fst : Int) - v_142.snd.fst).toNat
          · -- no
            refine br_intro (fun c24 => ?_) (fun c24 => ?_) -- what != (4 : Int)
            · -- yes
              simp at c24 -- ¬what = (4 : Int)
              -- k (AV.bool (bif true then v_142.fst == (0 : Int) else false)) [] []
              have ed : v_142.fst = 0 := by
                rw [h13.2.2.2.2.2.2.1, show v_142.snd.fst.toNat = (wOut ins what p).length by omega]
                exact df_out ins what p c24
              exact k_true hk (by simp [ed])
            · -- no
              simp at c24 -- what = (4 : Int)
              refine ⟨by exact ⟨by assumption, by assumption⟩, ?_⟩ -- (0 : Int) ≤ what ∧ what ≤ (255 : Int)
              refine ⟨by exact ⟨by assumption, by assumption⟩, ?_⟩ -- (-9223372036854775808 : Int) ≤ p ∧ p ≤ (9223372036854775807 : Int)
              refine ⟨?_, ?_⟩
              · -- left
                intro e_170
                intro h25 -- e_170 = wE (0 : Nat) (List.take v_142.snd.snd.fst (List.drop held.length v_142.snd.snd.snd)).length what p
                intro h26 -- e_170 = (2 : Int) ∨ e_170 = (3 : Int)
                intro n173
                intro q173 -- n173 = (↑ins.length : Int)
                intro n175
                intro q175 -- n175 = min n173 (1 : Int)
                -- k (AV.bool (bif bif bif true then v_142.fst == n175 else false then e_170 == (0 : Int) else false then { data := #[] : ByteArray }.data.toList == { data := ins.toArray : ByteArray }.data.toList else false)) [] []
                have hr : List.take v_142.snd.snd.fst (List.drop held.length v_142.snd.snd.snd) = turn ins p := by
                  rw [h13.2.1, List.drop_left, List.take_of_length_le (by omega), wOut4 _ _ c24]
                have w := wE_zero h13.2.2.2.2.2.2.2.2.2
                exfalso
                rw [hr, turn_length, wE_ok (by omega) (by omega) (by omega) (by omega)] at h25
                omega
              refine ⟨?_, ?_⟩
              · -- left
                intro q175 -- wE (0 : Nat) (List.take v_142.snd.snd.fst (List.drop held.length v_142.snd.snd.snd)).length what p = (0 : Int)
                intro q175 -- what = (3 : Int)
                intro n179
                intro q179 -- n179 = (↑ins.length : Int)
                intro n181
                intro q181 -- n181 = min n179 (1 : Int)
                exact by (exfalso; omega) -- k (AV.bool (bif bif bif true then v_142.fst == n181 else false then (0 : Int) == (0 : Int) else false then { data := (List.take (0 : Nat) (List.drop (0 : Nat) [])).toArray : ByteArray }.data.toList == { data := ins.toArray : ByteArray }.data.toList else false)) [] []
              intro q181 -- wE (0 : Nat) (List.take v_142.snd.snd.fst (List.drop held.length v_142.snd.snd.snd)).length what p = (0 : Int)
              intro q181 -- what ≠ (3 : Int)
              intro ys_185
              intro n_186
              intro h27 -- ys_185 = [] ++ wOut (List.take v_142.snd.snd.fst (List.drop held.length v_142.snd.snd.snd)) what p
              intro h28 -- ys_185.length = n_186
              intro n189
              intro q189 -- n189 = (↑ins.length : Int)
              intro n191
              intro q191 -- n191 = min n189 (1 : Int)
              -- k (AV.bool (bif bif bif true then v_142.fst == n191 else false then (0 : Int) == (0 : Int) else false then { data := (List.take n_186 (List.drop (0 : Nat) ys_185)).toArray : ByteArray }.data.toList == { data := ins.toArray : ByteArray }.data.toList else false)) [] []
              have hr : List.take v_142.snd.snd.fst (List.drop held.length v_142.snd.snd.snd) = turn ins p := by
                rw [h13.2.1, List.drop_left, List.take_of_length_le (by omega), wOut4 _ _ c24]
              have w := wE_zero h13.2.2.2.2.2.2.2.2.2
              have e3 : ys_185 = ins := by
                rw [h27, hr, List.nil_append, wOut4 _ _ c24, turn_turn]
              have ed : v_142.fst = n191 := by
                have t := df_turn ins p
                rw [h13.2.2.2.2.2.2.1, show v_142.snd.fst.toNat = (wOut ins what p).length by omega, wOut4 _ _ c24, t]
                omega
              subst h28
              subst e3
              exact k_true hk (by simp [ed])

theorem wireOnce_ok : Holds Try.prog 3 lawOnce := by
  refine fn_sound (env := mkEnv T2) (tab_ok T2_ok) Try.func3 Try.call3 fun args k h => ?_
  match args, h with
  | [.sl 0 held, .sl 0 ins, .int .u8 what, .int .i64 p], h => exact ⟨by kernel_rfl, onceLoops held ins what p, fun _ _ => none, .cast (by kernel_rfl) (wireOnce_vc held ins what h.1.1 h.1.2 p h.2.1.1 h.2.1.2 k h.2.2)⟩
end Go.Proofs.Ytkcnpemaocdnkaa
namespace Go.Proofs.Ytkcnpemaocdnkaa
open Go.ChangeShapes Go.WideShapes Go.ChangeAt Go.RowKit Go.Eng
set_option linter.unusedVariables false

theorem ownO : ownKnob Try.prog.godebug = none := by kernel_rfl
theorem laidO : laidOutB Try.prog = true := by kernel_rfl

set_option maxHeartbeats 800000 in
set_option maxRecDepth 100000 in
theorem wireOnceLifted (os : Os) (started : os.Started) (H : Type) (enc : TypeId × Value → H) :
    ReturnsInHanded {} Try.checked os 3 .any (Rows.wireOnceSpec.pre6 enc Try.prog Try.f3 Rows.wireOnceRow.domain false) (Rows.wireOnceSpec.post enc Try.prog Try.f3 false true false false) := by
  refine returnsInHanded_of_change (C := Try.checked) ownO started (by kernel_rfl) Try.func3
    (ChangeSpec.witness6 (enc := enc) (C := Try.checked) false ⟨#[], #[.slice none 0 0, .slice none 0 0, .int .u8 0, .int .i64 0], []⟩ 8 (by kernel_rfl) (by kernel_rfl) (by kernel_rfl) (by kernel_rfl)) ?_
  intro W base args ds gs before hval0 hW hcnd _
  have hval : ∀ (j : Nat) t v, Try.f3.params[j]? = some t → args[j]? = some v → Value.okWide Try.prog W .any base t v := hval0
  have hW' := hW
  obtain ⟨p, q, hA0, hV, rfl, hfz, hnd⟩ := hW
  have hA : DataW.TrodAll enc Try.prog W 0 (fun _ => true) true Try.f3.params.toList args.toList ds p := hA0
  rw [Try.params3] at hA hval
  obtain ⟨v0, vs0, d0, ds0, p0, q0, hargs, rfl, rfl, h0, r0⟩ := trodAll_cons hA
  obtain ⟨v1, vs1, d1, ds1, p1, q1, rfl, rfl, rfl, h1, r1⟩ := trodAll_cons r0
  obtain ⟨v2, vs2, d2, ds2, p2, q2, rfl, rfl, rfl, h2, r2⟩ := trodAll_cons r1
  obtain ⟨v3, vs3, d3, ds3, p3, q3, rfl, rfl, rfl, h3, r3⟩ := trodAll_cons r2
  obtain ⟨rfl, rfl, rfl⟩ := trodAll_nil r3
  obtain rfl : args = #[v0, v1, v2, v3] := by cases args; simp_all
  obtain ⟨rfl, rfl⟩ := trodVars_none hV
  have k0 := h0
  have lt0 : ∀ x ∈ p0, x.block < W.heap.size := by obtain ⟨m, hm⟩ := k0; exact DataW.trod_lt m _ _ _ hm
  obtain ⟨xs0, w0⟩ : ∃ xs : List UInt8, Rep W (· < W.heap.size) noIds v0 (.sl 0 xs) := by
    obtain ⟨fuel, hf⟩ := h0
    exact rep_bytes Try.underlying22 Try.underlying5 (by kernel_rfl) (hval 0 22 v0 rfl rfl) hf
  have k1 := h1
  have lt1 : ∀ x ∈ p1, x.block < W.heap.size := by obtain ⟨m, hm⟩ := k1; exact DataW.trod_lt m _ _ _ hm
  obtain ⟨xs1, w1⟩ : ∃ xs : List UInt8, Rep W (· < W.heap.size) noIds v1 (.sl 0 xs) := by
    obtain ⟨fuel, hf⟩ := h1
    exact rep_bytes Try.underlying22 Try.underlying5 (by kernel_rfl) (hval 1 22 v1 rfl rfl) hf
  obtain ⟨a2, rfl, rfl, rfl, w2⟩ := open_int Try.underlying5 (hval 2 5 v2 rfl rfl) h2
  obtain ⟨a3, rfl, rfl, rfl, w3⟩ := open_int Try.underlying3 (hval 3 3 v3 rfl rfl) h3
  clear hA0 hval0
  have hk2 : kwf .u8 a2 := by simpa [Lit.wf, kwf] using w2
  have hk3 : kwf .i64 a3 := by simpa [Lit.wf, kwf] using w3
  -- PRE: what the spec asks (['hk2', 'hk3']), then rfl
  refine (calls_of_holds wireOnce_ok Try.call3 (w := W) (vals := #[v0, v1, .int .u8 a2, .int .i64 a3]) (args := [.sl 0 xs0, .sl 0 xs1, .int .u8 a2, .int .i64 a3]) rfl (fun j v hj => ?_) ⟨hk2, hk3, rfl⟩).mono fun e W' ⟨he, bel⟩ => ?_
  · rcases j with _ | _ | _ | _ | j
    · simp at hj; subst hj; exact w0
    · simp at hj; subst hj; exact w1
    · simp at hj; subst hj; exact .int hk2
    · simp at hj; subst hj; exact .int hk3
    · simp at hj
  subst he
  exact ⟨_, rfl, _, _, _, [], _, [], hW', trodAll_mk1 (shut_bool Try.underlying4 _), (trodAll_cons_mk (Below.trod laidO (by kernel_rfl) (of_decide_eq_true (by kernel_rfl)) k0 bel lt0) (trodAll_cons_mk (Below.trod laidO (by kernel_rfl) (of_decide_eq_true (by kernel_rfl)) k1 bel lt1) (trodAll_cons_mk (shut_int Try.underlying5 w2) (trodAll_cons_mk (shut_int Try.underlying3 w3) trodAll_mk0)))), rfl, bel.frame _, fun h => by cases h⟩

theorem wireOnce_said : Rows.WireOnceSaid :=
  OpenClaim.holds_of_wide 3 Try.f3 rfl rfl rfl rfl rfl rfl rfl ⟨rfl, rfl, rfl, rfl, rfl⟩ rfl rfl rfl rfl rfl (by kernel_rfl) Try.func3 (by kernel_rfl)
    (of_decide_eq_true (by kernel_rfl)) (by unfold Func.isWrapper; first | (rw [if_pos (by decide +kernel)]; kernel_rfl) | (rw [if_neg (by decide +kernel)]; exact ⟨rfl, rfl⟩))
    (fun os started H enc _ => wireOnceLifted os started H enc)
#print axioms wireOnce_said
end Go.Proofs.Ytkcnpemaocdnkaa


