import Derived.Test.YtiekaipompepdaaBkE
namespace Go.Proofs.Ytiekaipompepdaa
open Go Go.Eng Go.Bk Go.Proofs
set_option linter.unusedVariables false
set_option maxHeartbeats 2000000 in
theorem bdo_vc (d : List UInt8) (l : List Put) (w : Int) (t : Int) (hd : d.length ≤ (1000000 : Nat) ∧ l.length ≤ (1000000 : Nat)) (k : AV → List (Option Blk) → List Blk → Prop) (hk : (∀ (e : Int), e = doE d l w t → e ≠ (0 : Int) → k (AV.tup [AV.agg [AV.nilsl], AV.int IntKind.i64 e]) [] []) ∧ (doE d l w t = (0 : Int) → ∀ (ys : List UInt8) (n : Nat), ys = doO d l w t → ys.length = n → k (AV.tup [AV.agg [AV.row (0 : Nat) (0 : Nat) (0 : Nat) n], AV.int IntKind.i64 (0 : Int)]) [] [Blk.row (0 : Nat) ys])) :
  ∀ (e_1 : Int),
  (e_1 = chkE d) →
  ∀ (n3 : Int),
  (n3 = e_1) →
  ((-9223372036854775808 : Int) ≤ n3 ∧ n3 ≤ (9223372036854775807 : Int)) →
  br (n3 != (0 : Int))
   (∀ (n6 : Int),
    (n6 = e_1) →
    ((-9223372036854775808 : Int) ≤ n6 ∧ n6 ≤ (9223372036854775807 : Int)) →
    br (n6 != (0 : Int))
     ((k (AV.tup [AV.agg [AV.nilsl], AV.int IntKind.i64 e_1]) [] []))
     ((k (AV.tup [AV.agg [AV.nilsl], AV.int IntKind.i64 e_1]) [] [])))
   (∀ (n9 : Int),
    (n9 = (↑l.length : Int)) →
    ((-9223372036854775808 : Int) ≤ n9 ∧ n9 ≤ (9223372036854775807 : Int)) →
    (
     ∃ (v : Nat),
     (l = l) ∧
     (w = w) ∧
     (t = t) ∧
     (l = l) ∧
     (n9 = (↑l.length : Int)) ∧
     ((0 : Int) = (↑v : Int)) ∧
     (e_1 = (0 : Int)) ∧
     (d = d) ∧
     (v ≤ l.length) ∧
     (
      (d.length ≤ (1000000 : Nat)) ∧
      (l.length ≤ (1000000 : Nat))) ∧
     (DrE d l v (0 : Int))) ∧
    ∀ (v_12 : Nat),
    (v_12 ≤ l.length ∧ (d.length ≤ (1000000 : Nat) ∧ l.length ≤ (1000000 : Nat)) ∧ DrE d l v_12 (0 : Int)) →
    br (decide ((↑v_12 : Int) < (↑l.length : Int)))
     (((0 : Int) ≤ (↑v_12 : Int)) ∧
      ((↑v_12 : Int) < (↑l.length : Int)) ∧
      ∀ (n14 : Int),
      (n14 = (l.getD (↑v_12 : Int).toNat (dflt (9 : Nat))).n) →
      ((-9223372036854775808 : Int) ≤ n14 ∧ n14 ≤ (9223372036854775807 : Int)) →
      ∀ (e_17 : Int),
      (e_17 = askE d n14) →
      ∀ (n19 : Int),
      (n19 = e_17) →
      ((-9223372036854775808 : Int) ≤ n19 ∧ n19 ≤ (9223372036854775807 : Int)) →
      br (n19 != (0 : Int))
       (∀ (n22 : Int),
        (n22 = e_17) →
        ((-9223372036854775808 : Int) ≤ n22 ∧ n22 ≤ (9223372036854775807 : Int)) →
        br (n22 != (0 : Int))
         ((k (AV.tup [AV.agg [AV.nilsl], AV.int IntKind.i64 e_17]) [] []))
         ((k (AV.tup [AV.agg [AV.nilsl], AV.int IntKind.i64 e_17]) [] [])))
       (∀ (n25 : Int),
        (n25 = (↑(l.getD (↑v_12 : Int).toNat (dflt (9 : Nat))).data.length : Int)) →
        ((-9223372036854775808 : Int) ≤ n25 ∧ n25 ≤ (9223372036854775807 : Int)) →
        br (n25 != (64 : Int))
         (∀ (n28 : Int),
          (n28 = (8 : Int)) →
          ((-9223372036854775808 : Int) ≤ n28 ∧ n28 ≤ (9223372036854775807 : Int)) →
          br (n28 != (0 : Int))
           ((k (AV.tup [AV.agg [AV.nilsl], AV.int IntKind.i64 (8 : Int)]) [] []))
           ((k (AV.tup [AV.agg [AV.nilsl], AV.int IntKind.i64 (8 : Int)]) [] [])))
         (∀ (n31 : Int),
          (n31 = IntKind.i64.wrap ((↑v_12 : Int) + (1 : Int))) →
          ((-9223372036854775808 : Int) ≤ n31 ∧ n31 ≤ (9223372036854775807 : Int)) →
          ∃ (v' : Nat),
          (l = l) ∧
          (w = w) ∧
          (t = t) ∧
          (l = l) ∧
          ((↑l.length : Int) = (↑l.length : Int)) ∧
          (n31 = (↑v' : Int)) ∧
          (e_17 = (0 : Int)) ∧
          (d = d) ∧
          (
           (v' ≤ l.length) ∧
           (
            (d.length ≤ (1000000 : Nat)) ∧
            (l.length ≤ (1000000 : Nat))) ∧
           (DrE d l v' (0 : Int))) ∧
          (l.length - v' < l.length - v_12))))
     (∀ (n34 : Int),
      (n34 = (↑l.length : Int)) →
      br (bif bif bif decide (w < (0 : Int)) then true else decide (w > n34) then true else decide (t < (0 : Int)) then true else decide (t > (64 : Int)))
       (∀ (n36 : Int),
        (n36 = (2 : Int)) →
        ((-9223372036854775808 : Int) ≤ n36 ∧ n36 ≤ (9223372036854775807 : Int)) →
        br (n36 != (0 : Int))
         ((k (AV.tup [AV.agg [AV.nilsl], AV.int IntKind.i64 (2 : Int)]) [] []))
         ((k (AV.tup [AV.agg [AV.nilsl], AV.int IntKind.i64 (2 : Int)]) [] [])))
       ((d.length ≤ (1000000 : Nat)) ∧
        ∀ (n39 : Int),
        (n39 = (↑l.length : Int)) →
        ((-9223372036854775808 : Int) ≤ n39 ∧ n39 ≤ (9223372036854775807 : Int)) →
        (
         ∃ (v : Nat × List UInt8),
         (w = w) ∧
         (t = t) ∧
         (l = l) ∧
         (n39 = (↑l.length : Int)) ∧
         ((0 : Int) = (↑v.fst : Int)) ∧
         ((0 : Int) = (0 : Int)) ∧
         ((0 : Nat) = (0 : Nat)) ∧
         (d.length = d.length) ∧
         (d = v.snd) ∧
         (v.fst ≤ l.length) ∧
         (
          (d.length ≤ (1000000 : Nat)) ∧
          (l.length ≤ (1000000 : Nat))) ∧
         (ok0 d l w t) ∧
         (v.snd.length = d.length) ∧
         (v.snd = doF d l w t v.fst)) ∧
        ∀ (v_42 : Nat × List UInt8),
        (v_42.fst ≤ l.length ∧ (d.length ≤ (1000000 : Nat) ∧ l.length ≤ (1000000 : Nat)) ∧ ok0 d l w t ∧ v_42.snd.length = d.length ∧ v_42.snd = doF d l w t v_42.fst) →
        br (decide ((↑v_42.fst : Int) < (↑l.length : Int)))
         (((0 : Int) ≤ (↑v_42.fst : Int)) ∧
          ((↑v_42.fst : Int) < (↑l.length : Int)) ∧
          br (decide ((↑v_42.fst : Int) < w))
           (∀ (n44 : Int),
            (n44 = (l.getD (↑v_42.fst : Int).toNat (dflt (9 : Nat))).n) →
            ((-9223372036854775808 : Int) ≤ n44 ∧ n44 ≤ (9223372036854775807 : Int)) →
            (
             (
              (d.length = v_42.snd.length) ∧
              ((0 : Int) ≤ n44) ∧
              ((64 : Int) * n44 + (64 : Int) ≤ (↑v_42.snd.length : Int)) ∧
              (v_42.snd.length ≤ (1000000 : Nat))) ∧
             ∀ (o_47 : Nat),
             (o_47 = (64 : Nat) * n44.toNat) →
             ∀ (z49 : List UInt8),
             (z49 = List.take o_47 v_42.snd ++ List.take ((l.getD (↑v_42.fst : Int).toNat (dflt (9 : Nat))).data.length.min (64 : Nat)) (l.getD (↑v_42.fst : Int).toNat (dflt (9 : Nat))).data ++ List.drop (o_47 + (l.getD (↑v_42.fst : Int).toNat (dflt (9 : Nat))).data.length.min (64 : Nat)) v_42.snd) →
             ∀ (n51 : Int),
             (n51 = IntKind.i64.wrap ((↑v_42.fst : Int) + (1 : Int))) →
             ((-9223372036854775808 : Int) ≤ n51 ∧ n51 ≤ (9223372036854775807 : Int)) →
             ∃ (v' : Nat × List UInt8),
             (w = w) ∧
             (t = t) ∧
             (l = l) ∧
             ((↑l.length : Int) = (↑l.length : Int)) ∧
             (n51 = (↑v'.fst : Int)) ∧
             ((0 : Int) = (0 : Int)) ∧
             ((0 : Nat) = (0 : Nat)) ∧
             (d.length = d.length) ∧
             (z49 = v'.snd) ∧
             (
              (v'.fst ≤ l.length) ∧
              (
               (d.length ≤ (1000000 : Nat)) ∧
               (l.length ≤ (1000000 : Nat))) ∧
              (ok0 d l w t) ∧
              (v'.snd.length = d.length) ∧
              (v'.snd = doF d l w t v'.fst)) ∧
             (l.length - v'.fst < l.length - v_42.fst)) ∧
            (
             (
              (d.length = v_42.snd.length) ∧
              ((0 : Int) ≤ n44) ∧
              ((64 : Int) * n44 + (64 : Int) ≤ (↑v_42.snd.length : Int)) ∧
              (v_42.snd.length ≤ (1000000 : Nat))) ∧
             ∀ (o_54 : Nat),
             (o_54 = (64 : Nat) * n44.toNat) →
             ∀ (z56 : List UInt8),
             (z56 = List.take o_54 v_42.snd ++ List.take ((l.getD (↑v_42.fst : Int).toNat (dflt (9 : Nat))).data.length.min (64 : Nat)) (l.getD (↑v_42.fst : Int).toNat (dflt (9 : Nat))).data ++ List.drop (o_54 + (l.getD (↑v_42.fst : Int).toNat (dflt (9 : Nat))).data.length.min (64 : Nat)) v_42.snd) →
             ∀ (n58 : Int),
             (n58 = IntKind.i64.wrap ((↑v_42.fst : Int) + (1 : Int))) →
             ((-9223372036854775808 : Int) ≤ n58 ∧ n58 ≤ (9223372036854775807 : Int)) →
             ∃ (v' : Nat × List UInt8),
             (w = w) ∧
             (t = t) ∧
             (l = l) ∧
             ((↑l.length : Int) = (↑l.length : Int)) ∧
             (n58 = (↑v'.fst : Int)) ∧
             ((0 : Int) = (0 : Int)) ∧
             ((0 : Nat) = (0 : Nat)) ∧
             (d.length = d.length) ∧
             (z56 = v'.snd) ∧
             (
              (v'.fst ≤ l.length) ∧
              (
               (d.length ≤ (1000000 : Nat)) ∧
               (l.length ≤ (1000000 : Nat))) ∧
              (ok0 d l w t) ∧
              (v'.snd.length = d.length) ∧
              (v'.snd = doF d l w t v'.fst)) ∧
             (l.length - v'.fst < l.length - v_42.fst)) ∧
            (
             (d.length = v_42.snd.length) ∧
             ((0 : Int) ≤ n44) ∧
             ((64 : Int) * n44 + (64 : Int) ≤ (↑v_42.snd.length : Int)) ∧
             (v_42.snd.length ≤ (1000000 : Nat))) ∧
            ∀ (o_61 : Nat),
            (o_61 = (64 : Nat) * n44.toNat) →
            ∀ (z63 : List UInt8),
            (z63 = List.take o_61 v_42.snd ++ List.take ((l.getD (↑v_42.fst : Int).toNat (dflt (9 : Nat))).data.length.min (64 : Nat)) (l.getD (↑v_42.fst : Int).toNat (dflt (9 : Nat))).data ++ List.drop (o_61 + (l.getD (↑v_42.fst : Int).toNat (dflt (9 : Nat))).data.length.min (64 : Nat)) v_42.snd) →
            ∀ (n65 : Int),
            (n65 = IntKind.i64.wrap ((↑v_42.fst : Int) + (1 : Int))) →
            ((-9223372036854775808 : Int) ≤ n65 ∧ n65 ≤ (9223372036854775807 : Int)) →
            ∃ (v' : Nat × List UInt8),
            (w = w) ∧
            (t = t) ∧
            (l = l) ∧
            ((↑l.length : Int) = (↑l.length : Int)) ∧
            (n65 = (↑v'.fst : Int)) ∧
            ((0 : Int) = (0 : Int)) ∧
            ((0 : Nat) = (0 : Nat)) ∧
            (d.length = d.length) ∧
            (z63 = v'.snd) ∧
            (
             (v'.fst ≤ l.length) ∧
             (
              (d.length ≤ (1000000 : Nat)) ∧
              (l.length ≤ (1000000 : Nat))) ∧
             (ok0 d l w t) ∧
             (v'.snd.length = d.length) ∧
             (v'.snd = doF d l w t v'.fst)) ∧
            (l.length - v'.fst < l.length - v_42.fst))
           (br ((↑v_42.fst : Int) == w)
             (∀ (n68 : Int),
              (n68 = (l.getD (↑v_42.fst : Int).toNat (dflt (9 : Nat))).n) →
              ((-9223372036854775808 : Int) ≤ n68 ∧ n68 ≤ (9223372036854775807 : Int)) →
              (
               (
                (d.length = v_42.snd.length) ∧
                ((0 : Int) ≤ n68) ∧
                ((64 : Int) * n68 + (64 : Int) ≤ (↑v_42.snd.length : Int)) ∧
                (v_42.snd.length ≤ (1000000 : Nat))) ∧
               ∀ (o_71 : Nat),
               (o_71 = (64 : Nat) * n68.toNat) →
               ((0 : Int) ≤ t) ∧
               (t ≤ (↑(l.getD (↑v_42.fst : Int).toNat (dflt (9 : Nat))).data.length : Int)) ∧
               ∀ (z73 : List UInt8),
               (z73 = List.take o_71 v_42.snd ++ List.take ((List.take t.toNat (l.getD (↑v_42.fst : Int).toNat (dflt (9 : Nat))).data).length.min (64 : Nat)) (List.take t.toNat (l.getD (↑v_42.fst : Int).toNat (dflt (9 : Nat))).data) ++ List.drop (o_71 + (List.take t.toNat (l.getD (↑v_42.fst : Int).toNat (dflt (9 : Nat))).data).length.min (64 : Nat)) v_42.snd) →
               ∀ (n75 : Int),
               (n75 = IntKind.i64.wrap ((↑v_42.fst : Int) + (1 : Int))) →
               ((-9223372036854775808 : Int) ≤ n75 ∧ n75 ≤ (9223372036854775807 : Int)) →
               ∃ (v' : Nat × List UInt8),
               (w = w) ∧
               (t = t) ∧
               (l = l) ∧
               ((↑l.length : Int) = (↑l.length : Int)) ∧
               (n75 = (↑v'.fst : Int)) ∧
               ((0 : Int) = (0 : Int)) ∧
               ((0 : Nat) = (0 : Nat)) ∧
               (d.length = d.length) ∧
               (z73 = v'.snd) ∧
               (
                (v'.fst ≤ l.length) ∧
                (
                 (d.length ≤ (1000000 : Nat)) ∧
                 (l.length ≤ (1000000 : Nat))) ∧
                (ok0 d l w t) ∧
                (v'.snd.length = d.length) ∧
                (v'.snd = doF d l w t v'.fst)) ∧
               (l.length - v'.fst < l.length - v_42.fst)) ∧
              (
               (
                (d.length = v_42.snd.length) ∧
                ((0 : Int) ≤ n68) ∧
                ((64 : Int) * n68 + (64 : Int) ≤ (↑v_42.snd.length : Int)) ∧
                (v_42.snd.length ≤ (1000000 : Nat))) ∧
               ∀ (o_78 : Nat),
               (o_78 = (64 : Nat) * n68.toNat) →
               ((0 : Int) ≤ t) ∧
               (t ≤ (↑(l.getD (↑v_42.fst : Int).toNat (dflt (9 : Nat))).data.length : Int)) ∧
               ∀ (z80 : List UInt8),
               (z80 = List.take o_78 v_42.snd ++ List.take ((List.take t.toNat (l.getD (↑v_42.fst : Int).toNat (dflt (9 : Nat))).data).length.min (64 : Nat)) (List.take t.toNat (l.getD (↑v_42.fst : Int).toNat (dflt (9 : Nat))).data) ++ List.drop (o_78 + (List.take t.toNat (l.getD (↑v_42.fst : Int).toNat (dflt (9 : Nat))).data).length.min (64 : Nat)) v_42.snd) →
               ∀ (n82 : Int),
               (n82 = IntKind.i64.wrap ((↑v_42.fst : Int) + (1 : Int))) →
               ((-9223372036854775808 : Int) ≤ n82 ∧ n82 ≤ (9223372036854775807 : Int)) →
               ∃ (v' : Nat × List UInt8),
               (w = w) ∧
               (t = t) ∧
               (l = l) ∧
               ((↑l.length : Int) = (↑l.length : Int)) ∧
               (n82 = (↑v'.fst : Int)) ∧
               ((0 : Int) = (0 : Int)) ∧
               ((0 : Nat) = (0 : Nat)) ∧
               (d.length = d.length) ∧
               (z80 = v'.snd) ∧
               (
                (v'.fst ≤ l.length) ∧
                (
                 (d.length ≤ (1000000 : Nat)) ∧
                 (l.length ≤ (1000000 : Nat))) ∧
                (ok0 d l w t) ∧
                (v'.snd.length = d.length) ∧
                (v'.snd = doF d l w t v'.fst)) ∧
               (l.length - v'.fst < l.length - v_42.fst)) ∧
              (
               (
                (d.length = v_42.snd.length) ∧
                ((0 : Int) ≤ n68) ∧
                ((64 : Int) * n68 + (64 : Int) ≤ (↑v_42.snd.length : Int)) ∧
                (v_42.snd.length ≤ (1000000 : Nat))) ∧
               ∀ (o_85 : Nat),
               (o_85 = (64 : Nat) * n68.toNat) →
               ((0 : Int) ≤ t) ∧
               (t ≤ (↑(l.getD (↑v_42.fst : Int).toNat (dflt (9 : Nat))).data.length : Int)) ∧
               ∀ (z87 : List UInt8),
               (z87 = List.take o_85 v_42.snd ++ List.take ((List.take t.toNat (l.getD (↑v_42.fst : Int).toNat (dflt (9 : Nat))).data).length.min (64 : Nat)) (List.take t.toNat (l.getD (↑v_42.fst : Int).toNat (dflt (9 : Nat))).data) ++ List.drop (o_85 + (List.take t.toNat (l.getD (↑v_42.fst : Int).toNat (dflt (9 : Nat))).data).length.min (64 : Nat)) v_42.snd) →
               ∀ (n89 : Int),
               (n89 = IntKind.i64.wrap ((↑v_42.fst : Int) + (1 : Int))) →
               ((-9223372036854775808 : Int) ≤ n89 ∧ n89 ≤ (9223372036854775807 : Int)) →
               ∃ (v' : Nat × List UInt8),
               (w = w) ∧
               (t = t) ∧
               (l = l) ∧
               ((↑l.length : Int) = (↑l.length : Int)) ∧
               (n89 = (↑v'.fst : Int)) ∧
               ((0 : Int) = (0 : Int)) ∧
               ((0 : Nat) = (0 : Nat)) ∧
               (d.length = d.length) ∧
               (z87 = v'.snd) ∧
               (
                (v'.fst ≤ l.length) ∧
                (
                 (d.length ≤ (1000000 : Nat)) ∧
                 (l.length ≤ (1000000 : Nat))) ∧
                (ok0 d l w t) ∧
                (v'.snd.length = d.length) ∧
                (v'.snd = doF d l w t v'.fst)) ∧
               (l.length - v'.fst < l.length - v_42.fst)) ∧
              ((0 : Int) ≤ t) ∧
              (t ≤ (↑(l.getD (↑v_42.fst : Int).toNat (dflt (9 : Nat))).data.length : Int)) ∧
              (
               (d.length = v_42.snd.length) ∧
               ((0 : Int) ≤ n68) ∧
               ((64 : Int) * n68 + (64 : Int) ≤ (↑v_42.snd.length : Int)) ∧
               (v_42.snd.length ≤ (1000000 : Nat))) ∧
              ∀ (o_92 : Nat),
              (o_92 = (64 : Nat) * n68.toNat) →
              ∀ (z94 : List UInt8),
              (z94 = List.take o_92 v_42.snd ++ List.take ((List.take t.toNat (l.getD (↑v_42.fst : Int).toNat (dflt (9 : Nat))).data).length.min (64 : Nat)) (List.take t.toNat (l.getD (↑v_42.fst : Int).toNat (dflt (9 : Nat))).data) ++ List.drop (o_92 + (List.take t.toNat (l.getD (↑v_42.fst : Int).toNat (dflt (9 : Nat))).data).length.min (64 : Nat)) v_42.snd) →
              ∀ (n96 : Int),
              (n96 = IntKind.i64.wrap ((↑v_42.fst : Int) + (1 : Int))) →
              ((-9223372036854775808 : Int) ≤ n96 ∧ n96 ≤ (9223372036854775807 : Int)) →
              ∃ (v' : Nat × List UInt8),
              (w = w) ∧
              (t = t) ∧
              (l = l) ∧
              ((↑l.length : Int) = (↑l.length : Int)) ∧
              (n96 = (↑v'.fst : Int)) ∧
              ((0 : Int) = (0 : Int)) ∧
              ((0 : Nat) = (0 : Nat)) ∧
              (d.length = d.length) ∧
              (z94 = v'.snd) ∧
              (
               (v'.fst ≤ l.length) ∧
               (
                (d.length ≤ (1000000 : Nat)) ∧
                (l.length ≤ (1000000 : Nat))) ∧
               (ok0 d l w t) ∧
               (v'.snd.length = d.length) ∧
               (v'.snd = doF d l w t v'.fst)) ∧
              (l.length - v'.fst < l.length - v_42.fst))
             (∀ (n99 : Int),
              (n99 = IntKind.i64.wrap ((↑v_42.fst : Int) + (1 : Int))) →
              ((-9223372036854775808 : Int) ≤ n99 ∧ n99 ≤ (9223372036854775807 : Int)) →
              ∃ (v' : Nat × List UInt8),
              (w = w) ∧
              (t = t) ∧
              (l = l) ∧
              ((↑l.length : Int) = (↑l.length : Int)) ∧
              (n99 = (↑v'.fst : Int)) ∧
              ((0 : Int) = (0 : Int)) ∧
              ((0 : Nat) = (0 : Nat)) ∧
              (d.length = d.length) ∧
              (v_42.snd = v'.snd) ∧
              (
               (v'.fst ≤ l.length) ∧
               (
                (d.length ≤ (1000000 : Nat)) ∧
                (l.length ≤ (1000000 : Nat))) ∧
               (ok0 d l w t) ∧
               (v'.snd.length = d.length) ∧
               (v'.snd = doF d l w t v'.fst)) ∧
              (l.length - v'.fst < l.length - v_42.fst))))
         (∀ (n102 : Int),
          (n102 = (0 : Int)) →
          ((-9223372036854775808 : Int) ≤ n102 ∧ n102 ≤ (9223372036854775807 : Int)) →
          br (n102 != (0 : Int))
           ((k (AV.tup [AV.agg [AV.nilsl], AV.int IntKind.i64 (0 : Int)]) [] []))
           ((k (AV.tup [AV.agg [AV.row (0 : Nat) (0 : Nat) (0 : Nat) d.length], AV.int IntKind.i64 (0 : Int)]) [] [Blk.row (0 : Nat) v_42.snd])))))) := by
  intro e_1
  intro h1 -- e_1 = chkE d
  intro n3
  intro q3 -- n3 = e_1
  intro ⟨l3, u3⟩ -- (-9223372036854775808 : Int) ≤ n3 ∧ n3 ≤ (9223372036854775807 : Int)
  refine br_intro (fun c2 => ?_) (fun c2 => ?_) -- n3 != (0 : Int)
  · -- yes
    simp at c2 -- ¬n3 = (0 : Int)
    intro n6
    intro q6 -- n6 = e_1
    intro ⟨l6, u6⟩ -- (-9223372036854775808 : Int) ≤ n6 ∧ n6 ≤ (9223372036854775807 : Int)
    refine br_intro (fun c3 => ?_) (fun c3 => ?_) -- n6 != (0 : Int)
    · -- yes
      simp at c3 -- ¬n6 = (0 : Int)
      -- k (AV.tup [AV.agg [AV.nilsl], AV.int IntKind.i64 e_1]) [] []
      exact hk.1 e_1 (do_chk h1 (by omega)) (by omega)
    · -- no
      simp at c3 -- n6 = (0 : Int)
      exfalso; omega
  · -- no
    simp at c2 -- n3 = (0 : Int)
    intro n9
    intro q9 -- n9 = (↑l.length : Int)
    intro ⟨l9, u9⟩ -- (-9223372036854775808 : Int) ≤ n9 ∧ n9 ≤ (9223372036854775807 : Int)
    refine ⟨?_, ?_⟩
    · -- left
      refine ⟨Int.toNat (0 : Int), ?_⟩
      refine ⟨by first | with_reducible rfl | rfl, ?_⟩ -- l = l
      refine ⟨by first | with_reducible rfl | rfl, ?_⟩ -- w = w
      refine ⟨by first | with_reducible rfl | rfl, ?_⟩ -- t = t
      refine ⟨by first | with_reducible rfl | rfl, ?_⟩ -- l = l
      refine ⟨by show n9 = (↑l.length : Int); assumption, ?_⟩ -- n9 = (↑l.length : Int)
      refine ⟨by show (0 : Int) = (↑(Int.toNat (0 : Int)) : Int); omega, ?_⟩ -- (0 : Int) = (↑(Int.toNat (0 : Int)) : Int)
      refine ⟨by show e_1 = (0 : Int); omega, ?_⟩ -- e_1 = (0 : Int)
      refine ⟨by first | with_reducible rfl | rfl, ?_⟩ -- d = d
      refine ⟨by show Int.toNat (0 : Int) ≤ l.length; omega, ?_⟩ -- Int.toNat (0 : Int) ≤ l.length
      refine ⟨by first | omega | (dsimp only; omega), ?_⟩ -- d.length ≤ (1000000 : Nat) ∧ l.length ≤ (1000000 : Nat)
      -- DrE d l (Int.toNat (0 : Int)) (0 : Int)
      exact dr_0 (by omega)
    intro v_12
    intro h4 -- v_12 ≤ l.length ∧ (d.length ≤ (1000000 : Nat) ∧ l.length ≤ (1000000 : Nat)) ∧ DrE d l v_12 (0 : Int)
    refine brd (fun c5 => ?_) (fun c5 => ?_) -- decide ((↑v_12 : Int) < (↑l.length : Int))
    · -- yes
      refine ⟨by first | omega | (dsimp only; omega), ?_⟩ -- (0 : Int) ≤ (↑v_12 : Int)
      refine ⟨by assumption, ?_⟩ -- (↑v_12 : Int) < (↑l.length : Int)
      intro n14
      intro q14 -- n14 = (l.getD (↑v_12 : Int).toNat (dflt (9 : Nat))).n
      intro ⟨l14, u14⟩ -- (-9223372036854775808 : Int) ≤ n14 ∧ n14 ≤ (9223372036854775807 : Int)
      intro e_17
      intro h6 -- e_17 = askE d n14
      intro n19
      intro q19 -- n19 = e_17
      intro ⟨l19, u19⟩ -- (-9223372036854775808 : Int) ≤ n19 ∧ n19 ≤ (9223372036854775807 : Int)
      refine br_intro (fun c7 => ?_) (fun c7 => ?_) -- n19 != (0 : Int)
      · -- yes
        simp at c7 -- ¬n19 = (0 : Int)
        intro n22
        intro q22 -- n22 = e_17
        intro ⟨l22, u22⟩ -- (-9223372036854775808 : Int) ≤ n22 ∧ n22 ≤ (9223372036854775807 : Int)
        refine br_intro (fun c8 => ?_) (fun c8 => ?_) -- n22 != (0 : Int)
        · -- yes
          simp at c8 -- ¬n22 = (0 : Int)
          -- k (AV.tup [AV.agg [AV.nilsl], AV.int IntKind.i64 e_17]) [] []
          exact hk.1 e_17 (do_of (dr_ask h4.2.2 (by omega) q14 h6 (by omega)) (by omega)) (by omega)
        · -- no
          simp at c8 -- n22 = (0 : Int)
          exfalso; omega
      · -- no
        simp at c7 -- n19 = (0 : Int)
        intro n25
        intro q25 -- n25 = (↑(l.getD (↑v_12 : Int).toNat (dflt (9 : Nat))).data.length : Int)
        intro ⟨l25, u25⟩ -- (-9223372036854775808 : Int) ≤ n25 ∧ n25 ≤ (9223372036854775807 : Int)
        refine br_intro (fun c9 => ?_) (fun c9 => ?_) -- n25 != (64 : Int)
        · -- yes
          simp at c9 -- ¬n25 = (64 : Int)
          intro n28
          intro q28 -- n28 = (8 : Int)
          intro ⟨l28, u28⟩ -- (-9223372036854775808 : Int) ≤ n28 ∧ n28 ≤ (9223372036854775807 : Int)
          refine br_intro (fun c10 => ?_) (fun c10 => ?_) -- n28 != (0 : Int)
          · -- yes
            simp at c10 -- ¬n28 = (0 : Int)
            -- k (AV.tup [AV.agg [AV.nilsl], AV.int IntKind.i64 (8 : Int)]) [] []
            exact hk.1 8 (do_of (dr_len h4.2.2 (by omega) q14 h6 (by omega) (by rw [Int.toNat_natCast] at q25; omega)) (by decide)) (by decide)
          · -- no
            simp at c10 -- n28 = (0 : Int)
            exfalso; omega
        · -- no
          simp at c9 -- n25 = (64 : Int)
          intro n31
          intro q31 -- n31 = IntKind.i64.wrap ((↑v_12 : Int) + (1 : Int))
          rw [IntKind.wrap_i64] at q31
          intro ⟨l31, u31⟩ -- (-9223372036854775808 : Int) ≤ n31 ∧ n31 ≤ (9223372036854775807 : Int)
          refine ⟨n31.toNat, ?_⟩
          refine ⟨by first | with_reducible rfl | rfl, ?_⟩ -- l = l
          refine ⟨by first | with_reducible rfl | rfl, ?_⟩ -- w = w
          refine ⟨by first | with_reducible rfl | rfl, ?_⟩ -- t = t
          refine ⟨by first | with_reducible rfl | rfl, ?_⟩ -- l = l
          refine ⟨by first | with_reducible rfl | rfl, ?_⟩ -- (↑l.length : Int) = (↑l.length : Int)
          refine ⟨by show n31 = (↑n31.toNat : Int); omega, ?_⟩ -- n31 = (↑n31.toNat : Int)
          refine ⟨by show e_17 = (0 : Int); omega, ?_⟩ -- e_17 = (0 : Int)
          refine ⟨by first | with_reducible rfl | rfl, ?_⟩ -- d = d
          refine ⟨?_, ?_⟩
          · -- left
            refine ⟨by show n31.toNat ≤ l.length; omega, ?_⟩ -- n31.toNat ≤ l.length
            refine ⟨by first | omega | (dsimp only; omega), ?_⟩ -- d.length ≤ (1000000 : Nat) ∧ l.length ≤ (1000000 : Nat)
            -- DrE d l n31.toNat (0 : Int)
            exact dr_step h4.2.2 (by omega) q14 h6 (by omega) (by rw [Int.toNat_natCast] at q25; omega) (by omega)
          exact by show l.length - n31.toNat < l.length - v_12; omega -- l.length - n31.toNat < l.length - v_12
    · -- no
      intro n34
      intro q34 -- n34 = (↑l.length : Int)
      refine br_intro (fun c11 => ?_) (fun c11 => ?_) -- bif bif bif decide (w < (0 : Int)) then true else decide (w > n34) then true else decide (t < (0 : Int)) then true else decide (t > (64 : Int))
      · -- yes
        simp at c11 -- ((w < (0 : Int) ∨ n34 < w) ∨ t < (0 : Int)) ∨ (64 : Int) < t
        intro n36
        intro q36 -- n36 = (2 : Int)
        intro ⟨l36, u36⟩ -- (-9223372036854775808 : Int) ≤ n36 ∧ n36 ≤ (9223372036854775807 : Int)
        refine br_intro (fun c12 => ?_) (fun c12 => ?_) -- n36 != (0 : Int)
        · -- yes
          simp at c12 -- ¬n36 = (0 : Int)
          -- k (AV.tup [AV.agg [AV.nilsl], AV.int IntKind.i64 (2 : Int)]) [] []
          exact hk.1 2 (do_2 (dr_end h4.2.2 (by omega)) (by omega)) (by decide)
        · -- no
          simp at c12 -- n36 = (0 : Int)
          exfalso; omega
      · -- no
        simp at c11 -- (((0 : Int) ≤ w ∧ w ≤ n34) ∧ (0 : Int) ≤ t) ∧ t ≤ (64 : Int)
        refine ⟨by first | omega | (dsimp only; omega), ?_⟩ -- d.length ≤ (1000000 : Nat)
        intro n39
        intro q39 -- n39 = (↑l.length : Int)
        intro ⟨l39, u39⟩ -- (-9223372036854775808 : Int) ≤ n39 ∧ n39 ≤ (9223372036854775807 : Int)
        refine ⟨?_, ?_⟩
        · -- left
          refine ⟨(Int.toNat (0 : Int), d), ?_⟩
          refine ⟨by first | with_reducible rfl | rfl, ?_⟩ -- w = w
          refine ⟨by first | with_reducible rfl | rfl, ?_⟩ -- t = t
          refine ⟨by first | with_reducible rfl | rfl, ?_⟩ -- l = l
          refine ⟨by show n39 = (↑l.length : Int); assumption, ?_⟩ -- n39 = (↑l.length : Int)
          refine ⟨by show (0 : Int) = (↑(Int.toNat (0 : Int)) : Int); omega, ?_⟩ -- (0 : Int) = (↑(Int.toNat (0 : Int)) : Int)
          refine ⟨by first | with_reducible rfl | rfl, ?_⟩ -- (0 : Int) = (0 : Int)
          refine ⟨by first | with_reducible rfl | rfl, ?_⟩ -- (0 : Nat) = (0 : Nat)
          refine ⟨by first | with_reducible rfl | rfl, ?_⟩ -- d.length = d.length
          refine ⟨by first | with_reducible rfl | rfl, ?_⟩ -- d = d
          refine ⟨by show Int.toNat (0 : Int) ≤ l.length; omega, ?_⟩ -- Int.toNat (0 : Int) ≤ l.length
          refine ⟨by first | omega | (dsimp only; omega), ?_⟩ -- d.length ≤ (1000000 : Nat) ∧ l.length ≤ (1000000 : Nat)
          have h13 : ok0 d l w t := by
            exact ok_of (dr_end h4.2.2 (by omega)) (by omega)
          refine ⟨h13, ?_⟩
          refine ⟨by first | with_reducible rfl | rfl, ?_⟩ -- d.length = d.length
          exact by rfl -- d = doF d l w t (Int.toNat (0 : Int))
        intro v_42
        intro h14 -- v_42.fst ≤ l.length ∧ (d.length ≤ (1000000 : Nat) ∧ l.length ≤ (1000000 : Nat)) ∧ ok0 d l w t ∧ v_42.snd.length = d.length ∧ v_42.snd = doF d l w t v_42.fst
        refine brd (fun c15 => ?_) (fun c15 => ?_) -- decide ((↑v_42.fst : Int) < (↑l.length : Int))
        · -- yes
          refine ⟨by first | omega | (dsimp only; omega), ?_⟩ -- (0 : Int) ≤ (↑v_42.fst : Int)
          refine ⟨by assumption, ?_⟩ -- (↑v_42.fst : Int) < (↑l.length : Int)
          refine brd (fun c16 => ?_) (fun c16 => ?_) -- decide ((↑v_42.fst : Int) < w)
          · -- yes
            intro n44
            intro q44 -- n44 = (l.getD (↑v_42.fst : Int).toNat (dflt (9 : Nat))).n
            intro ⟨l44, u44⟩ -- (-9223372036854775808 : Int) ≤ n44 ∧ n44 ≤ (9223372036854775807 : Int)
            refine ⟨?_, ?_⟩
            · -- left
              refine ⟨?_, ?_⟩
              · -- left
                refine ⟨by first | omega | (dsimp only; omega), ?_⟩ -- d.length = v_42.snd.length
                have h17 : (0 : Int) ≤ n44 := by
                  exact (bk_room h14.2.2.1 (by omega) q44).1
                refine ⟨h17, ?_⟩
                have h18 : (64 : Int) * n44 + (64 : Int) ≤ (↑v_42.snd.length : Int) := by
                  have := (bk_room h14.2.2.1 (by omega) q44).2.1
                  omega
                refine ⟨h18, ?_⟩
                exact by omega -- v_42.snd.length ≤ (1000000 : Nat)
              intro o_47
              intro h19 -- o_47 = (64 : Nat) * n44.toNat
              intro z49
              intro qz49 -- z49 = List.take o_47 v_42.snd ++ List.take ((l.getD (↑v_42.fst : Int).toNat (dflt (9 : Nat))).data.length.min (64 : Nat)) (l.getD (↑v_42.fst : Int).toNat (dflt (9 : Nat))).data ++ List.drop (o_47 + (l.getD (↑v_42.fst : Int).toNat (dflt (9 : Nat))).data.length.min (64 : Nat)) v_42.snd
              intro n51
              intro q51 -- n51 = IntKind.i64.wrap ((↑v_42.fst : Int) + (1 : Int))
              rw [IntKind.wrap_i64] at q51
              intro ⟨l51, u51⟩ -- (-9223372036854775808 : Int) ≤ n51 ∧ n51 ≤ (9223372036854775807 : Int)
              refine ⟨(n51.toNat, z49), ?_⟩
              refine ⟨by first | with_reducible rfl | rfl, ?_⟩ -- w = w
              refine ⟨by first | with_reducible rfl | rfl, ?_⟩ -- t = t
              refine ⟨by first | with_reducible rfl | rfl, ?_⟩ -- l = l
              refine ⟨by first | with_reducible rfl | rfl, ?_⟩ -- (↑l.length : Int) = (↑l.length : Int)
              refine ⟨by show n51 = (↑n51.toNat : Int); omega, ?_⟩ -- n51 = (↑n51.toNat : Int)
              refine ⟨by first | with_reducible rfl | rfl, ?_⟩ -- (0 : Int) = (0 : Int)
              refine ⟨by first | with_reducible rfl | rfl, ?_⟩ -- (0 : Nat) = (0 : Nat)
              refine ⟨by first | with_reducible rfl | rfl, ?_⟩ -- d.length = d.length
              refine ⟨by first | with_reducible rfl | rfl, ?_⟩ -- z49 = z49
              refine ⟨?_, ?_⟩
              · -- left
                refine ⟨by show n51.toNat ≤ l.length; omega, ?_⟩ -- n51.toNat ≤ l.length
                refine ⟨by first | omega | (dsimp only; omega), ?_⟩ -- d.length ≤ (1000000 : Nat) ∧ l.length ≤ (1000000 : Nat)
                have h20 : ok0 d l w t := by
                  exact h14.2.2.1
                refine ⟨h20, ?_⟩
                have h21 : z49.length = d.length := by
                  exact (bk_1 h14.2.2.1 (by omega) h14.2.2.2.1 h14.2.2.2.2 (by omega) q44 h19 qz49).2
                refine ⟨h21, ?_⟩
                -- z49 = doF d l w t n51.toNat
                rw [show n51.toNat = v_42.fst + 1 by omega]
                exact (bk_1 h14.2.2.1 (by omega) h14.2.2.2.1 h14.2.2.2.2 (by omega) q44 h19 qz49).1
              exact by show l.length - n51.toNat < l.length - v_42.fst; omega -- l.length - n51.toNat < l.length - v_42.fst
            refine ⟨?_, ?_⟩
            · -- left
              refine ⟨?_, ?_⟩
              · -- left
                refine ⟨by first | omega | (dsimp only; omega), ?_⟩ -- d.length = v_42.snd.length
                have h22 : (0 : Int) ≤ n44 := by
                  exact (bk_room h14.2.2.1 (by omega) q44).1
                refine ⟨h22, ?_⟩
                have h23 : (64 : Int) * n44 + (64 : Int) ≤ (↑v_42.snd.length : Int) := by
                  have := (bk_room h14.2.2.1 (by omega) q44).2.1
                  omega
                refine ⟨h23, ?_⟩
                exact by omega -- v_42.snd.length ≤ (1000000 : Nat)
              intro o_54
              intro h24 -- o_54 = (64 : Nat) * n44.toNat
              intro z56
              intro qz56 -- z56 = List.take o_54 v_42.snd ++ List.take ((l.getD (↑v_42.fst : Int).toNat (dflt (9 : Nat))).data.length.min (64 : Nat)) (l.getD (↑v_42.fst : Int).toNat (dflt (9 : Nat))).data ++ List.drop (o_54 + (l.getD (↑v_42.fst : Int).toNat (dflt (9 : Nat))).data.length.min (64 : Nat)) v_42.snd
              intro n58
              intro q58 -- n58 = IntKind.i64.wrap ((↑v_42.fst : Int) + (1 : Int))
              rw [IntKind.wrap_i64] at q58
              intro ⟨l58, u58⟩ -- (-9223372036854775808 : Int) ≤ n58 ∧ n58 ≤ (9223372036854775807 : Int)
              refine ⟨(n58.toNat, z56), ?_⟩
              refine ⟨by first | with_reducible rfl | rfl, ?_⟩ -- w = w
              refine ⟨by first | with_reducible rfl | rfl, ?_⟩ -- t = t
              refine ⟨by first | with_reducible rfl | rfl, ?_⟩ -- l = l
              refine ⟨by first | with_reducible rfl | rfl, ?_⟩ -- (↑l.length : Int) = (↑l.length : Int)
              refine ⟨by show n58 = (↑n58.toNat : Int); omega, ?_⟩ -- n58 = (↑n58.toNat : Int)
              refine ⟨by first | with_reducible rfl | rfl, ?_⟩ -- (0 : Int) = (0 : Int)
              refine ⟨by first | with_reducible rfl | rfl, ?_⟩ -- (0 : Nat) = (0 : Nat)
              refine ⟨by first | with_reducible rfl | rfl, ?_⟩ -- d.length = d.length
              refine ⟨by first | with_reducible rfl | rfl, ?_⟩ -- z56 = z56
              refine ⟨?_, ?_⟩
              · -- left
                refine ⟨by show n58.toNat ≤ l.length; omega, ?_⟩ -- n58.toNat ≤ l.length
                refine ⟨by first | omega | (dsimp only; omega), ?_⟩ -- d.length ≤ (1000000 : Nat) ∧ l.length ≤ (1000000 : Nat)
                have h25 : ok0 d l w t := by
                  exact h14.2.2.1
                refine ⟨h25, ?_⟩
                have h26 : z56.length = d.length := by
                  exact (bk_1 h14.2.2.1 (by omega) h14.2.2.2.1 h14.2.2.2.2 (by omega) q44 h24 qz56).2
                refine ⟨h26, ?_⟩
                -- z56 = doF d l w t n58.toNat
                rw [show n58.toNat = v_42.fst + 1 by omega]
                exact (bk_1 h14.2.2.1 (by omega) h14.2.2.2.1 h14.2.2.2.2 (by omega) q44 h24 qz56).1
              exact by show l.length - n58.toNat < l.length - v_42.fst; omega -- l.length - n58.toNat < l.length - v_42.fst
            refine ⟨?_, ?_⟩
            · -- left
              refine ⟨by first | omega | (dsimp only; omega), ?_⟩ -- d.length = v_42.snd.length
              have h27 : (0 : Int) ≤ n44 := by
                exact (bk_room h14.2.2.1 (by omega) q44).1
              refine ⟨h27, ?_⟩
              have h28 : (64 : Int) * n44 + (64 : Int) ≤ (↑v_42.snd.length : Int) := by
                have := (bk_room h14.2.2.1 (by omega) q44).2.1
                omega
              refine ⟨h28, ?_⟩
              exact by omega -- v_42.snd.length ≤ (1000000 : Nat)
            intro o_61
            intro h29 -- o_61 = (64 : Nat) * n44.toNat
            intro z63
            intro qz63 -- z63 = List.take o_61 v_42.snd ++ List.take ((l.getD (↑v_42.fst : Int).toNat (dflt (9 : Nat))).data.length.min (64 : Nat)) (l.getD (↑v_42.fst : Int).toNat (dflt (9 : Nat))).data ++ List.drop (o_61 + (l.getD (↑v_42.fst : Int).toNat (dflt (9 : Nat))).data.length.min (64 : Nat)) v_42.snd
            intro n65
            intro q65 -- n65 = IntKind.i64.wrap ((↑v_42.fst : Int) + (1 : Int))
            rw [IntKind.wrap_i64] at q65
            intro ⟨l65, u65⟩ -- (-9223372036854775808 : Int) ≤ n65 ∧ n65 ≤ (9223372036854775807 : Int)
            refine ⟨(n65.toNat, z63), ?_⟩
            refine ⟨by first | with_reducible rfl | rfl, ?_⟩ -- w = w
            refine ⟨by first | with_reducible rfl | rfl, ?_⟩ -- t = t
            refine ⟨by first | with_reducible rfl | rfl, ?_⟩ -- l = l
            refine ⟨by first | with_reducible rfl | rfl, ?_⟩ -- (↑l.length : Int) = (↑l.length : Int)
            refine ⟨by show n65 = (↑n65.toNat : Int); omega, ?_⟩ -- n65 = (↑n65.toNat : Int)
            refine ⟨by first | with_reducible rfl | rfl, ?_⟩ -- (0 : Int) = (0 : Int)
            refine ⟨by first | with_reducible rfl | rfl, ?_⟩ -- (0 : Nat) = (0 : Nat)
            refine ⟨by first | with_reducible rfl | rfl, ?_⟩ -- d.length = d.length
            refine ⟨by first | with_reducible rfl | rfl, ?_⟩ -- z63 = z63
            refine ⟨?_, ?_⟩
            · -- left
              refine ⟨by show n65.toNat ≤ l.length; omega, ?_⟩ -- n65.toNat ≤ l.length
              refine ⟨by first | omega | (dsimp only; omega), ?_⟩ -- d.length ≤ (1000000 : Nat) ∧ l.length ≤ (1000000 : Nat)
              have h30 : ok0 d l w t := by
                exact h14.2.2.1
              refine ⟨h30, ?_⟩
              have h31 : z63.length = d.length := by
                exact (bk_1 h14.2.2.1 (by omega) h14.2.2.2.1 h14.2.2.2.2 (by omega) q44 h29 qz63).2
              refine ⟨h31, ?_⟩
              -- z63 = doF d l w t n65.toNat
              rw [show n65.toNat = v_42.fst + 1 by omega]
              exact (bk_1 h14.2.2.1 (by omega) h14.2.2.2.1 h14.2.2.2.2 (by omega) q44 h29 qz63).1
            exact by show l.length - n65.toNat < l.length - v_42.fst; omega -- l.length - n65.toNat < l.length - v_42.fst
          · -- no
            refine br_intro (fun c32 => ?_) (fun c32 => ?_) -- (↑v_42.fst : Int) == w
            · -- yes
              simp at c32 -- (↑v_42.fst : Int) = w
              intro n68
              intro q68 -- n68 = (l.getD (↑v_42.fst : Int).toNat (dflt (9 : Nat))).n
              intro ⟨l68, u68⟩ -- (-9223372036854775808 : Int) ≤ n68 ∧ n68 ≤ (9223372036854775807 : Int)
              refine ⟨?_, ?_⟩
              · -- left
                refine ⟨?_, ?_⟩
                · -- left
                  refine ⟨by first | omega | (dsimp only; omega), ?_⟩ -- d.length = v_42.snd.length
                  have h33 : (0 : Int) ≤ n68 := by
                    exact (bk_room h14.2.2.1 (by omega) q68).1
                  refine ⟨h33, ?_⟩
                  have h34 : (64 : Int) * n68 + (64 : Int) ≤ (↑v_42.snd.length : Int) := by
                    have := (bk_room h14.2.2.1 (by omega) q68).2.1
                    omega
                  refine ⟨h34, ?_⟩
                  exact by omega -- v_42.snd.length ≤ (1000000 : Nat)
                intro o_71
                intro h35 -- o_71 = (64 : Nat) * n68.toNat
                refine ⟨by first | omega | (dsimp only; omega), ?_⟩ -- (0 : Int) ≤ t
                have h36 : t ≤ (↑(l.getD (↑v_42.fst : Int).toNat (dflt (9 : Nat))).data.length : Int) := by
                  have := (bk_room h14.2.2.1 (by omega) q68).2.2
                  rw [Int.toNat_natCast]
                  omega
                refine ⟨h36, ?_⟩
                intro z73
                intro qz73 -- z73 = List.take o_71 v_42.snd ++ List.take ((List.take t.toNat (l.getD (↑v_42.fst : Int).toNat (dflt (9 : Nat))).data).length.min (64 : Nat)) (List.take t.toNat (l.getD (↑v_42.fst : Int).toNat (dflt (9 : Nat))).data) ++ List.drop (o_71 + (List.take t.toNat (l.getD (↑v_42.fst : Int).toNat (dflt (9 : Nat))).data).length.min (64 : Nat)) v_42.snd
                intro n75
                intro q75 -- n75 = IntKind.i64.wrap ((↑v_42.fst : Int) + (1 : Int))
                rw [IntKind.wrap_i64] at q75
                intro ⟨l75, u75⟩ -- (-9223372036854775808 : Int) ≤ n75 ∧ n75 ≤ (9223372036854775807 : Int)
                refine ⟨(n75.toNat, z73), ?_⟩
                refine ⟨by first | with_reducible rfl | rfl, ?_⟩ -- w = w
                refine ⟨by first | with_reducible rfl | rfl, ?_⟩ -- t = t
                refine ⟨by first | with_reducible rfl | rfl, ?_⟩ -- l = l
                refine ⟨by first | with_reducible rfl | rfl, ?_⟩ -- (↑l.length : Int) = (↑l.length : Int)
                refine ⟨by show n75 = (↑n75.toNat : Int); omega, ?_⟩ -- n75 = (↑n75.toNat : Int)
                refine ⟨by first | with_reducible rfl | rfl, ?_⟩ -- (0 : Int) = (0 : Int)
                refine ⟨by first | with_reducible rfl | rfl, ?_⟩ -- (0 : Nat) = (0 : Nat)
                refine ⟨by first | with_reducible rfl | rfl, ?_⟩ -- d.length = d.length
                refine ⟨by first | with_reducible rfl | rfl, ?_⟩ -- z73 = z73
                refine ⟨?_, ?_⟩
                · -- left
                  refine ⟨by show n75.toNat ≤ l.length; omega, ?_⟩ -- n75.toNat ≤ l.length
                  refine ⟨by first | omega | (dsimp only; omega), ?_⟩ -- d.length ≤ (1000000 : Nat) ∧ l.length ≤ (1000000 : Nat)
                  have h37 : ok0 d l w t := by
                    exact h14.2.2.1
                  refine ⟨h37, ?_⟩
                  have h38 : z73.length = d.length := by
                    exact (bk_2 h14.2.2.1 (by omega) h14.2.2.2.1 h14.2.2.2.2 (by omega) q68 h35 qz73).2
                  refine ⟨h38, ?_⟩
                  -- z73 = doF d l w t n75.toNat
                  rw [show n75.toNat = v_42.fst + 1 by omega]
                  exact (bk_2 h14.2.2.1 (by omega) h14.2.2.2.1 h14.2.2.2.2 (by omega) q68 h35 qz73).1
                exact by show l.length - n75.toNat < l.length - v_42.fst; omega -- l.length - n75.toNat < l.length - v_42.fst
              refine ⟨?_, ?_⟩
              · -- left
                refine ⟨?_, ?_⟩
                · -- left
                  refine ⟨by first | omega | (dsimp only; omega), ?_⟩ -- d.length = v_42.snd.length
                  have h39 : (0 : Int) ≤ n68 := by
                    exact (bk_room h14.2.2.1 (by omega) q68).1
                  refine ⟨h39, ?_⟩
                  have h40 : (64 : Int) * n68 + (64 : Int) ≤ (↑v_42.snd.length : Int) := by
                    have := (bk_room h14.2.2.1 (by omega) q68).2.1
                    omega
                  refine ⟨h40, ?_⟩
                  exact by omega -- v_42.snd.length ≤ (1000000 : Nat)
                intro o_78
                intro h41 -- o_78 = (64 : Nat) * n68.toNat
                refine ⟨by first | omega | (dsimp only; omega), ?_⟩ -- (0 : Int) ≤ t
                have h42 : t ≤ (↑(l.getD (↑v_42.fst : Int).toNat (dflt (9 : Nat))).data.length : Int) := by
                  have := (bk_room h14.2.2.1 (by omega) q68).2.2
                  rw [Int.toNat_natCast]
                  omega
                refine ⟨h42, ?_⟩
                intro z80
                intro qz80 -- z80 = List.take o_78 v_42.snd ++ List.take ((List.take t.toNat (l.getD (↑v_42.fst : Int).toNat (dflt (9 : Nat))).data).length.min (64 : Nat)) (List.take t.toNat (l.getD (↑v_42.fst : Int).toNat (dflt (9 : Nat))).data) ++ List.drop (o_78 + (List.take t.toNat (l.getD (↑v_42.fst : Int).toNat (dflt (9 : Nat))).data).length.min (64 : Nat)) v_42.snd
                intro n82
                intro q82 -- n82 = IntKind.i64.wrap ((↑v_42.fst : Int) + (1 : Int))
                rw [IntKind.wrap_i64] at q82
                intro ⟨l82, u82⟩ -- (-9223372036854775808 : Int) ≤ n82 ∧ n82 ≤ (9223372036854775807 : Int)
                refine ⟨(n82.toNat, z80), ?_⟩
                refine ⟨by first | with_reducible rfl | rfl, ?_⟩ -- w = w
                refine ⟨by first | with_reducible rfl | rfl, ?_⟩ -- t = t
                refine ⟨by first | with_reducible rfl | rfl, ?_⟩ -- l = l
                refine ⟨by first | with_reducible rfl | rfl, ?_⟩ -- (↑l.length : Int) = (↑l.length : Int)
                refine ⟨by show n82 = (↑n82.toNat : Int); omega, ?_⟩ -- n82 = (↑n82.toNat : Int)
                refine ⟨by first | with_reducible rfl | rfl, ?_⟩ -- (0 : Int) = (0 : Int)
                refine ⟨by first | with_reducible rfl | rfl, ?_⟩ -- (0 : Nat) = (0 : Nat)
                refine ⟨by first | with_reducible rfl | rfl, ?_⟩ -- d.length = d.length
                refine ⟨by first | with_reducible rfl | rfl, ?_⟩ -- z80 = z80
                refine ⟨?_, ?_⟩
                · -- left
                  refine ⟨by show n82.toNat ≤ l.length; omega, ?_⟩ -- n82.toNat ≤ l.length
                  refine ⟨by first | omega | (dsimp only; omega), ?_⟩ -- d.length ≤ (1000000 : Nat) ∧ l.length ≤ (1000000 : Nat)
                  have h43 : ok0 d l w t := by
                    exact h14.2.2.1
                  refine ⟨h43, ?_⟩
                  have h44 : z80.length = d.length := by
                    exact (bk_2 h14.2.2.1 (by omega) h14.2.2.2.1 h14.2.2.2.2 (by omega) q68 h41 qz80).2
                  refine ⟨h44, ?_⟩
                  -- z80 = doF d l w t n82.toNat
                  rw [show n82.toNat = v_42.fst + 1 by omega]
                  exact (bk_2 h14.2.2.1 (by omega) h14.2.2.2.1 h14.2.2.2.2 (by omega) q68 h41 qz80).1
                exact by show l.length - n82.toNat < l.length - v_42.fst; omega -- l.length - n82.toNat < l.length - v_42.fst
              refine ⟨?_, ?_⟩
              · -- left
                refine ⟨?_, ?_⟩
                · -- left
                  refine ⟨by first | omega | (dsimp only; omega), ?_⟩ -- d.length = v_42.snd.length
                  have h45 : (0 : Int) ≤ n68 := by
                    exact (bk_room h14.2.2.1 (by omega) q68).1
                  refine ⟨h45, ?_⟩
                  have h46 : (64 : Int) * n68 + (64 : Int) ≤ (↑v_42.snd.length : Int) := by
                    have := (bk_room h14.2.2.1 (by omega) q68).2.1
                    omega
                  refine ⟨h46, ?_⟩
                  exact by omega -- v_42.snd.length ≤ (1000000 : Nat)
                intro o_85
                intro h47 -- o_85 = (64 : Nat) * n68.toNat
                refine ⟨by first | omega | (dsimp only; omega), ?_⟩ -- (0 : Int) ≤ t
                have h48 : t ≤ (↑(l.getD (↑v_42.fst : Int).toNat (dflt (9 : Nat))).data.length : Int) := by
                  have := (bk_room h14.2.2.1 (by omega) q68).2.2
                  rw [Int.toNat_natCast]
                  omega
                refine ⟨h48, ?_⟩
                intro z87
                intro qz87 -- z87 = List.take o_85 v_42.snd ++ List.take ((List.take t.toNat (l.getD (↑v_42.fst : Int).toNat (dflt (9 : Nat))).data).length.min (64 : Nat)) (List.take t.toNat (l.getD (↑v_42.fst : Int).toNat (dflt (9 : Nat))).data) ++ List.drop (o_85 + (List.take t.toNat (l.getD (↑v_42.fst : Int).toNat (dflt (9 : Nat))).data).length.min (64 : Nat)) v_42.snd
                intro n89
                intro q89 -- n89 = IntKind.i64.wrap ((↑v_42.fst : Int) + (1 : Int))
                rw [IntKind.wrap_i64] at q89
                intro ⟨l89, u89⟩ -- (-9223372036854775808 : Int) ≤ n89 ∧ n89 ≤ (9223372036854775807 : Int)
                refine ⟨(n89.toNat, z87), ?_⟩
                refine ⟨by first | with_reducible rfl | rfl, ?_⟩ -- w = w
                refine ⟨by first | with_reducible rfl | rfl, ?_⟩ -- t = t
                refine ⟨by first | with_reducible rfl | rfl, ?_⟩ -- l = l
                refine ⟨by first | with_reducible rfl | rfl, ?_⟩ -- (↑l.length : Int) = (↑l.length : Int)
                refine ⟨by show n89 = (↑n89.toNat : Int); omega, ?_⟩ -- n89 = (↑n89.toNat : Int)
                refine ⟨by first | with_reducible rfl | rfl, ?_⟩ -- (0 : Int) = (0 : Int)
                refine ⟨by first | with_reducible rfl | rfl, ?_⟩ -- (0 : Nat) = (0 : Nat)
                refine ⟨by first | with_reducible rfl | rfl, ?_⟩ -- d.length = d.length
                refine ⟨by first | with_reducible rfl | rfl, ?_⟩ -- z87 = z87
                refine ⟨?_, ?_⟩
                · -- left
                  refine ⟨by show n89.toNat ≤ l.length; omega, ?_⟩ -- n89.toNat ≤ l.length
                  refine ⟨by first | omega | (dsimp only; omega), ?_⟩ -- d.length ≤ (1000000 : Nat) ∧ l.length ≤ (1000000 : Nat)
                  have h49 : ok0 d l w t := by
                    exact h14.2.2.1
                  refine ⟨h49, ?_⟩
                  have h50 : z87.length = d.length := by
                    exact (bk_2 h14.2.2.1 (by omega) h14.2.2.2.1 h14.2.2.2.2 (by omega) q68 h47 qz87).2
                  refine ⟨h50, ?_⟩
                  -- z87 = doF d l w t n89.toNat
                  rw [show n89.toNat = v_42.fst + 1 by omega]
                  exact (bk_2 h14.2.2.1 (by omega) h14.2.2.2.1 h14.2.2.2.2 (by omega) q68 h47 qz87).1
                exact by show l.length - n89.toNat < l.length - v_42.fst; omega -- l.length - n89.toNat < l.length - v_42.fst
              refine ⟨by first | omega | (dsimp only; omega), ?_⟩ -- (0 : Int) ≤ t
              have h51 : t ≤ (↑(l.getD (↑v_42.fst : Int).toNat (dflt (9 : Nat))).data.length : Int) := by
                have := (bk_room h14.2.2.1 (by omega) q68).2.2
                rw [Int.toNat_natCast]
                omega
              refine ⟨h51, ?_⟩
              refine ⟨?_, ?_⟩
              · -- left
                refine ⟨by first | omega | (dsimp only; omega), ?_⟩ -- d.length = v_42.snd.length
                have h52 : (0 : Int) ≤ n68 := by
                  exact (bk_room h14.2.2.1 (by omega) q68).1
                refine ⟨h52, ?_⟩
                have h53 : (64 : Int) * n68 + (64 : Int) ≤ (↑v_42.snd.length : Int) := by
                  have := (bk_room h14.2.2.1 (by omega) q68).2.1
                  omega
                refine ⟨h53, ?_⟩
                exact by omega -- v_42.snd.length ≤ (1000000 : Nat)
              intro o_92
              intro h54 -- o_92 = (64 : Nat) * n68.toNat
              intro z94
              intro qz94 -- z94 = List.take o_92 v_42.snd ++ List.take ((List.take t.toNat (l.getD (↑v_42.fst : Int).toNat (dflt (9 : Nat))).data).length.min (64 : Nat)) (List.take t.toNat (l.getD (↑v_42.fst : Int).toNat (dflt (9 : Nat))).data) ++ List.drop (o_92 + (List.take t.toNat (l.getD (↑v_42.fst : Int).toNat (dflt (9 : Nat))).data).length.min (64 : Nat)) v_42.snd
              intro n96
              intro q96 -- n96 = IntKind.i64.wrap ((↑v_42.fst : Int) + (1 : Int))
              rw [IntKind.wrap_i64] at q96
              intro ⟨l96, u96⟩ -- (-9223372036854775808 : Int) ≤ n96 ∧ n96 ≤ (9223372036854775807 : Int)
              refine ⟨(n96.toNat, z94), ?_⟩
              refine ⟨by first | with_reducible rfl | rfl, ?_⟩ -- w = w
              refine ⟨by first | with_reducible rfl | rfl, ?_⟩ -- t = t
              refine ⟨by first | with_reducible rfl | rfl, ?_⟩ -- l = l
              refine ⟨by first | with_reducible rfl | rfl, ?_⟩ -- (↑l.length : Int) = (↑l.length : Int)
              refine ⟨by show n96 = (↑n96.toNat : Int); omega, ?_⟩ -- n96 = (↑n96.toNat : Int)
              refine ⟨by first | with_reducible rfl | rfl, ?_⟩ -- (0 : Int) = (0 : Int)
              refine ⟨by first | with_reducible rfl | rfl, ?_⟩ -- (0 : Nat) = (0 : Nat)
              refine ⟨by first | with_reducible rfl | rfl, ?_⟩ -- d.length = d.length
              refine ⟨by first | with_reducible rfl | rfl, ?_⟩ -- z94 = z94
              refine ⟨?_, ?_⟩
              · -- left
                refine ⟨by show n96.toNat ≤ l.length; omega, ?_⟩ -- n96.toNat ≤ l.length
                refine ⟨by first | omega | (dsimp only; omega), ?_⟩ -- d.length ≤ (1000000 : Nat) ∧ l.length ≤ (1000000 : Nat)
                have h55 : ok0 d l w t := by
                  exact h14.2.2.1
                refine ⟨h55, ?_⟩
                have h56 : z94.length = d.length := by
                  exact (bk_2 h14.2.2.1 (by omega) h14.2.2.2.1 h14.2.2.2.2 (by omega) q68 h54 qz94).2
                refine ⟨h56, ?_⟩
                -- z94 = doF d l w t n96.toNat
                rw [show n96.toNat = v_42.fst + 1 by omega]
                exact (bk_2 h14.2.2.1 (by omega) h14.2.2.2.1 h14.2.2.2.2 (by omega) q68 h54 qz94).1
              exact by show l.length - n96.toNat < l.length - v_42.fst; omega -- l.length - n96.toNat < l.length - v_42.fst
            · -- no
              simp at c32 -- ¬(↑v_42.fst : Int) = w
              intro n99
              intro q99 -- n99 = IntKind.i64.wrap ((↑v_42.fst : Int) + (1 : Int))
              rw [IntKind.wrap_i64] at q99
              intro ⟨l99, u99⟩ -- (-9223372036854775808 : Int) ≤ n99 ∧ n99 ≤ (9223372036854775807 : Int)
              refine ⟨(n99.toNat, v_42.snd), ?_⟩
              refine ⟨by first | with_reducible rfl | rfl, ?_⟩ -- w = w
              refine ⟨by first | with_reducible rfl | rfl, ?_⟩ -- t = t
              refine ⟨by first | with_reducible rfl | rfl, ?_⟩ -- l = l
              refine ⟨by first | with_reducible rfl | rfl, ?_⟩ -- (↑l.length : Int) = (↑l.length : Int)
              refine ⟨by show n99 = (↑n99.toNat : Int); omega, ?_⟩ -- n99 = (↑n99.toNat : Int)
              refine ⟨by first | with_reducible rfl | rfl, ?_⟩ -- (0 : Int) = (0 : Int)
              refine ⟨by first | with_reducible rfl | rfl, ?_⟩ -- (0 : Nat) = (0 : Nat)
              refine ⟨by first | with_reducible rfl | rfl, ?_⟩ -- d.length = d.length
              refine ⟨by first | with_reducible rfl | rfl, ?_⟩ -- v_42.snd = v_42.snd
              refine ⟨?_, ?_⟩
              · -- left
                refine ⟨by show n99.toNat ≤ l.length; omega, ?_⟩ -- n99.toNat ≤ l.length
                refine ⟨by first | omega | (dsimp only; omega), ?_⟩ -- d.length ≤ (1000000 : Nat) ∧ l.length ≤ (1000000 : Nat)
                have h57 : ok0 d l w t := by
                  exact h14.2.2.1
                refine ⟨h57, ?_⟩
                refine ⟨by show v_42.snd.length = d.length; omega, ?_⟩ -- v_42.snd.length = d.length
                -- v_42.snd = doF d l w t n99.toNat
                rw [show n99.toNat = v_42.fst + 1 by omega]
                exact bk_3 h14.2.2.2.2 (by omega) (by omega)
              exact by show l.length - n99.toNat < l.length - v_42.fst; omega -- l.length - n99.toNat < l.length - v_42.fst
        · -- no
          intro n102
          intro q102 -- n102 = (0 : Int)
          intro ⟨l102, u102⟩ -- (-9223372036854775808 : Int) ≤ n102 ∧ n102 ≤ (9223372036854775807 : Int)
          refine br_intro (fun c58 => ?_) (fun c58 => ?_) -- n102 != (0 : Int)
          · -- yes
            simp at c58 -- ¬n102 = (0 : Int)
            exfalso; omega
          · -- no
            simp at c58 -- n102 = (0 : Int)
            -- k (AV.tup [AV.agg [AV.row (0 : Nat) (0 : Nat) (0 : Nat) d.length], AV.int IntKind.i64 (0 : Int)]) [] [Blk.row (0 : Nat) v_42.snd]
            exact hk.2 h14.2.2.1.e _ _ (bk_end h14.2.2.1 h14.2.2.2.2 (by omega)) h14.2.2.2.1

theorem bdo_ok : Holds Try.prog 9 doS := by
  refine fn_soundD (env := mkEnv N4) (tab_ok N4_ok) Try.func9 Try.call9 (n := 25) Try.call25 fun args k h => ?_
  match args, h with
  | [.agg [.sl 0 d], .sl 9 l, .int .i64 w, .int .i64 t], h => exact ⟨by kernel_rfl, doLoops d l w t, fun _ _ => none, .cast (by kernel_rfl) (bdo_vc d l w t h.1 k h.2)⟩
theorem dr_i {d : List UInt8} {l : List Put} {e : Int} (h : e = chkE d) : DrE d l 0 e := by
  refine ⟨fun z => ⟨chk_0.1 (h.symm.trans z), rfl⟩, fun z => ?_⟩
  have o : ¬ dOk d.length := fun c => z (h.trans (chk_0.2 c))
  rw [h]
  unfold chkE err0
  rw [if_neg o, if_neg o]
theorem dr_r {d : List UInt8} {l : List Put} {i j : Nat} {n e0 e : Int} (h : DrE d l i e0) (h0 : e0 = 0) (hi : i < l.length) (hn : n = (l.getD (i : Int).toNat (dflt 9)).n) (he : e = raskE d.length n (l.getD (i : Int).toNat (dflt 9)).data) (hj : j = i + 1) : DrE d l j e := by
  subst hj
  obtain ⟨o, hp⟩ := h.z h0
  rw [Int.toNat_natCast] at hn he
  rw [putsE_step hi, ← hn] at hp
  unfold raskE at he
  have E : err0 d l = putsE d.length l := by unfold err0; rw [if_pos o]
  split at he
  · rename_i c
    rw [if_pos c] at hp
    split at he
    · rename_i c2
      rw [if_pos c2] at hp
      exact ⟨fun _ => ⟨o, hp⟩, fun z => absurd he z⟩
    · rename_i c2
      rw [if_neg c2] at hp
      exact ⟨fun z => absurd (he.symm.trans z) (by decide), fun _ => by rw [E, ← hp]; exact he⟩
  · rename_i c
    rw [if_neg c] at hp
    exact ⟨fun z => absurd (he.symm.trans z) (by decide), fun _ => by rw [E, ← hp]; exact he⟩
theorem tk_len {d ys : List UInt8} (h : ys.length = d.length) : List.take d.length (List.drop 0 ys) = ys := by rw [List.drop_zero, List.take_of_length_le (by omega)]
theorem bk_r {d ys z : List UInt8} {l : List Put} {w t n : Int} {i : Nat} (h : ok0 d l w t) (hi : i < l.length) (hl : ys.length = d.length) (hy : ys = doF d l w t i) (hw : (i : Int) < w) (hn : n = (l.getD (i : Int).toNat (dflt 9)).n)
    (hz : z = wr (List.take d.length (List.drop 0 ys)) n (l.getD (i : Int).toNat (dflt 9)).data (Int.toNat 64)) : z = doF d l w t (i + 1) ∧ z.length = d.length := by
  obtain ⟨r1, r2, r3⟩ := bk_room h hi hn
  rw [tk_len hl] at hz
  rw [Int.toNat_natCast] at hn hz
  have hz : z = wr ys n (l.getD i (dflt 9)).data 64 := hz
  exact ⟨by rw [doF, if_pos hw, ← hy, ← hn]; exact hz, by rw [hz, wr_len (by omega) (by omega)]; exact hl⟩
theorem bk_re {d ys z : List UInt8} {l : List Put} {w t n : Int} {i : Nat} (h : ok0 d l w t) (hl : ys.length = d.length) (hy : ys = doF d l w t i) (hi : (i : Int) = w) (hw : w < l.length) (hn : n = (l.getD w.toNat (dflt 9)).n)
    (hz : z = wr (List.take d.length (List.drop 0 ys)) n (l.getD w.toNat (dflt 9)).data t.toNat) : z = doO d l w t := by
  subst hi
  rw [Int.toNat_natCast] at hn hz
  rw [tk_len hl] at hz
  unfold doO
  rw [if_pos h.e, doF_end (by omega), ← hy, ← hn]
  exact hz
set_option maxHeartbeats 2000000 in
theorem rbdo_vc (d : List UInt8) (l : List Put) (w : Int) (t : Int) (hd : d.length ≤ (1000000 : Nat) ∧ l.length ≤ (1000000 : Nat)) (k : AV → List (Option Blk) → List Blk → Prop) (hk : (∀ (e : Int), e = doE d l w t → e ≠ (0 : Int) → k (AV.tup [AV.agg [AV.nilsl], AV.int IntKind.i64 e]) [] []) ∧ (doE d l w t = (0 : Int) → ∀ (ys : List UInt8) (n : Nat), ys = doO d l w t → ys.length = n → k (AV.tup [AV.agg [AV.row (0 : Nat) (0 : Nat) (0 : Nat) n], AV.int IntKind.i64 (0 : Int)]) [] [Blk.row (0 : Nat) ys])) :
  ∀ (e_1 : Int),
  (e_1 = chkE d) →
  (
   ∃ (v : Nat × Int),
   (l = l) ∧
   (w = w) ∧
   (t = t) ∧
   (e_1 = v.snd) ∧
   ((0 : Int) = (↑v.fst : Int)) ∧
   (d = d) ∧
   (v.fst ≤ l.length) ∧
   (
    (d.length ≤ (1000000 : Nat)) ∧
    (l.length ≤ (1000000 : Nat))) ∧
   (DrE d l v.fst v.snd)) ∧
  ∀ (v_3 : Nat × Int),
  (v_3.fst ≤ l.length ∧ (d.length ≤ (1000000 : Nat) ∧ l.length ≤ (1000000 : Nat)) ∧ DrE d l v_3.fst v_3.snd) →
  ∀ (n5 : Int),
  (n5 = (↑l.length : Int)) →
  ((-9223372036854775808 : Int) ≤ n5 ∧ n5 ≤ (9223372036854775807 : Int)) →
  br (bif decide ((↑v_3.fst : Int) < n5) then v_3.snd == (0 : Int) else false)
   (((0 : Int) ≤ (↑v_3.fst : Int)) ∧
    ((↑v_3.fst : Int) < (↑l.length : Int)) ∧
    ∀ (n8 : Int),
    (n8 = (l.getD (↑v_3.fst : Int).toNat (dflt (9 : Nat))).n) →
    ((-9223372036854775808 : Int) ≤ n8 ∧ n8 ≤ (9223372036854775807 : Int)) →
    ((0 : Int) ≤ (↑v_3.fst : Int)) ∧
    ((↑v_3.fst : Int) < (↑l.length : Int)) ∧
    ∀ (e_11 : Int),
    (e_11 = raskE d.length n8 (l.getD (↑v_3.fst : Int).toNat (dflt (9 : Nat))).data) →
    ∀ (n13 : Int),
    (n13 = IntKind.i64.wrap ((↑v_3.fst : Int) + (1 : Int))) →
    ((-9223372036854775808 : Int) ≤ n13 ∧ n13 ≤ (9223372036854775807 : Int)) →
    ∃ (v' : Nat × Int),
    (l = l) ∧
    (w = w) ∧
    (t = t) ∧
    (e_11 = v'.snd) ∧
    (n13 = (↑v'.fst : Int)) ∧
    (d = d) ∧
    (
     (v'.fst ≤ l.length) ∧
     (
      (d.length ≤ (1000000 : Nat)) ∧
      (l.length ≤ (1000000 : Nat))) ∧
     (DrE d l v'.fst v'.snd)) ∧
    (l.length - v'.fst < l.length - v_3.fst))
   (br (v_3.snd != (0 : Int))
     ((k (AV.tup [AV.agg [AV.nilsl], AV.int IntKind.i64 v_3.snd]) [] []))
     (∀ (n16 : Int),
      (n16 = (↑l.length : Int)) →
      br (bif bif bif decide (w < (0 : Int)) then true else decide (w > n16) then true else decide (t < (0 : Int)) then true else decide (t > (64 : Int)))
       ((k (AV.tup [AV.agg [AV.nilsl], AV.int IntKind.i64 (2 : Int)]) [] []))
       ((d.length ≤ (1000000 : Nat)) ∧
        ∀ (ys_18 : List UInt8),
        ∀ (n_19 : Nat),
        (ys_18 = d) →
        (ys_18.length = n_19) →
        (
         ∃ (v : Nat × List UInt8),
         (l = l) ∧
         (w = w) ∧
         (t = t) ∧
         ((0 : Int) = (↑v.fst : Int)) ∧
         ((0 : Nat) = (0 : Nat)) ∧
         (n_19 = d.length) ∧
         (ys_18 = v.snd) ∧
         (
          ((↑v.fst : Int) ≤ w) ∧
          (w ≤ (↑l.length : Int))) ∧
         (
          (d.length ≤ (1000000 : Nat)) ∧
          (l.length ≤ (1000000 : Nat))) ∧
         (ok0 d l w t) ∧
         (v.snd.length = d.length) ∧
         (v.snd = doF d l w t v.fst)) ∧
        ∀ (v_22 : Nat × List UInt8),
        (((↑v_22.fst : Int) ≤ w ∧ w ≤ (↑l.length : Int)) ∧ (d.length ≤ (1000000 : Nat) ∧ l.length ≤ (1000000 : Nat)) ∧ ok0 d l w t ∧ v_22.snd.length = d.length ∧ v_22.snd = doF d l w t v_22.fst) →
        br (decide ((↑v_22.fst : Int) < w))
         (((0 : Int) ≤ (↑v_22.fst : Int)) ∧
          ((↑v_22.fst : Int) < (↑l.length : Int)) ∧
          ∀ (n24 : Int),
          (n24 = (l.getD (↑v_22.fst : Int).toNat (dflt (9 : Nat))).n) →
          ((-9223372036854775808 : Int) ≤ n24 ∧ n24 ≤ (9223372036854775807 : Int)) →
          ((0 : Int) ≤ (↑v_22.fst : Int)) ∧
          ((↑v_22.fst : Int) < (↑l.length : Int)) ∧
          (
           (
            ((64 : Nat) ≤ (List.take d.length (List.drop (0 : Nat) v_22.snd)).length) ∧
            ((List.take d.length (List.drop (0 : Nat) v_22.snd)).length ≤ (4096 : Nat)) ∧
            ((List.take d.length (List.drop (0 : Nat) v_22.snd)).length % (64 : Nat) = (0 : Nat))) ∧
           (
            ((0 : Int) ≤ n24) ∧
            ((64 : Int) * n24 + (64 : Int) ≤ (↑(List.take d.length (List.drop (0 : Nat) v_22.snd)).length : Int))) ∧
           ((l.getD (↑v_22.fst : Int).toNat (dflt (9 : Nat))).data.length = (64 : Nat)) ∧
           ((0 : Int) ≤ (64 : Int)) ∧
           ((64 : Int) ≤ (64 : Int))) ∧
          ∀ (ys_27 : List UInt8),
          ∀ (q_28 : Nat),
          (ys_27 = wr (List.take d.length (List.drop (0 : Nat) v_22.snd)) n24 (l.getD (↑v_22.fst : Int).toNat (dflt (9 : Nat))).data (Int.toNat (64 : Int))) →
          (ys_27.length = q_28) →
          ∀ (n31 : Int),
          (n31 = IntKind.i64.wrap ((↑v_22.fst : Int) + (1 : Int))) →
          ((-9223372036854775808 : Int) ≤ n31 ∧ n31 ≤ (9223372036854775807 : Int)) →
          ∃ (v' : Nat × List UInt8),
          (l = l) ∧
          (w = w) ∧
          (t = t) ∧
          (n31 = (↑v'.fst : Int)) ∧
          ((0 : Nat) = (0 : Nat)) ∧
          (q_28 = d.length) ∧
          (ys_27 = v'.snd) ∧
          (
           (
            ((↑v'.fst : Int) ≤ w) ∧
            (w ≤ (↑l.length : Int))) ∧
           (
            (d.length ≤ (1000000 : Nat)) ∧
            (l.length ≤ (1000000 : Nat))) ∧
           (ok0 d l w t) ∧
           (v'.snd.length = d.length) ∧
           (v'.snd = doF d l w t v'.fst)) ∧
          ((w - (↑v'.fst : Int)).toNat < (w - (↑v_22.fst : Int)).toNat))
         (∀ (n34 : Int),
          (n34 = (↑l.length : Int)) →
          ((-9223372036854775808 : Int) ≤ n34 ∧ n34 ≤ (9223372036854775807 : Int)) →
          br (decide (w < n34))
           (((0 : Int) ≤ w) ∧
            (w < (↑l.length : Int)) ∧
            ∀ (n37 : Int),
            (n37 = (l.getD w.toNat (dflt (9 : Nat))).n) →
            ((-9223372036854775808 : Int) ≤ n37 ∧ n37 ≤ (9223372036854775807 : Int)) →
            ((0 : Int) ≤ w) ∧
            (w < (↑l.length : Int)) ∧
            (
             (
              ((64 : Nat) ≤ (List.take d.length (List.drop (0 : Nat) v_22.snd)).length) ∧
              ((List.take d.length (List.drop (0 : Nat) v_22.snd)).length ≤ (4096 : Nat)) ∧
              ((List.take d.length (List.drop (0 : Nat) v_22.snd)).length % (64 : Nat) = (0 : Nat))) ∧
             (
              ((0 : Int) ≤ n37) ∧
              ((64 : Int) * n37 + (64 : Int) ≤ (↑(List.take d.length (List.drop (0 : Nat) v_22.snd)).length : Int))) ∧
             ((l.getD w.toNat (dflt (9 : Nat))).data.length = (64 : Nat)) ∧
             ((0 : Int) ≤ t) ∧
             (t ≤ (64 : Int))) ∧
            ∀ (ys_40 : List UInt8),
            ∀ (q_41 : Nat),
            (ys_40 = wr (List.take d.length (List.drop (0 : Nat) v_22.snd)) n37 (l.getD w.toNat (dflt (9 : Nat))).data t.toNat) →
            (ys_40.length = q_41) →
            (k (AV.tup [AV.agg [AV.row (0 : Nat) (0 : Nat) (0 : Nat) q_41], AV.int IntKind.i64 (0 : Int)]) [] [Blk.row (0 : Nat) ys_40]))
           ((k (AV.tup [AV.agg [AV.row (0 : Nat) (0 : Nat) (0 : Nat) d.length], AV.int IntKind.i64 (0 : Int)]) [] [Blk.row (0 : Nat) v_22.snd])))))) := by
  intro e_1
  intro h1 -- e_1 = chkE d
  refine ⟨?_, ?_⟩
  · -- left
    refine ⟨(Int.toNat (0 : Int), e_1), ?_⟩
    refine ⟨by first | with_reducible rfl | rfl, ?_⟩ -- l = l
    refine ⟨by first | with_reducible rfl | rfl, ?_⟩ -- w = w
    refine ⟨by first | with_reducible rfl | rfl, ?_⟩ -- t = t
    refine ⟨by first | with_reducible rfl | rfl, ?_⟩ -- e_1 = e_1
    refine ⟨by show (0 : Int) = (↑(Int.toNat (0 : Int)) : Int); omega, ?_⟩ -- (0 : Int) = (↑(Int.toNat (0 : Int)) : Int)
    refine ⟨by first | with_reducible rfl | rfl, ?_⟩ -- d = d
    refine ⟨by show Int.toNat (0 : Int) ≤ l.length; omega, ?_⟩ -- Int.toNat (0 : Int) ≤ l.length
    refine ⟨by first | omega | (dsimp only; omega), ?_⟩ -- d.length ≤ (1000000 : Nat) ∧ l.length ≤ (1000000 : Nat)
    -- DrE d l (Int.toNat (0 : Int)) e_1
    exact dr_i h1
  intro v_3
  intro h2 -- v_3.fst ≤ l.length ∧ (d.length ≤ (1000000 : Nat) ∧ l.length ≤ (1000000 : Nat)) ∧ DrE d l v_3.fst v_3.snd
  intro n5
  intro q5 -- n5 = (↑l.length : Int)
  intro ⟨l5, u5⟩ -- (-9223372036854775808 : Int) ≤ n5 ∧ n5 ≤ (9223372036854775807 : Int)
  refine br_intro (fun c3 => ?_) (fun c3 => ?_) -- bif decide ((↑v_3.fst : Int) < n5) then v_3.snd == (0 : Int) else false
  · -- yes
    simp at c3 -- (↑v_3.fst : Int) < n5 ∧ v_3.snd = (0 : Int)
    refine ⟨by first | omega | (dsimp only; omega), ?_⟩ -- (0 : Int) ≤ (↑v_3.fst : Int)
    refine ⟨by first | omega | (dsimp only; omega), ?_⟩ -- (↑v_3.fst : Int) < (↑l.length : Int)
    intro n8
    intro q8 -- n8 = (l.getD (↑v_3.fst : Int).toNat (dflt (9 : Nat))).n
    intro ⟨l8, u8⟩ -- (-9223372036854775808 : Int) ≤ n8 ∧ n8 ≤ (9223372036854775807 : Int)
    refine ⟨by first | omega | (dsimp only; omega), ?_⟩ -- (0 : Int) ≤ (↑v_3.fst : Int)
    refine ⟨by first | omega | (dsimp only; omega), ?_⟩ -- (↑v_3.fst : Int) < (↑l.length : Int)
    intro e_11
    intro h4 -- e_11 = raskE d.length n8 (l.getD (↑v_3.fst : Int).toNat (dflt (9 : Nat))).data
    intro n13
    intro q13 -- n13 = IntKind.i64.wrap ((↑v_3.fst : Int) + (1 : Int))
    rw [IntKind.wrap_i64] at q13
    intro ⟨l13, u13⟩ -- (-9223372036854775808 : Int) ≤ n13 ∧ n13 ≤ (9223372036854775807 : Int)
    refine ⟨(n13.toNat, e_11), ?_⟩
    refine ⟨by first | with_reducible rfl | rfl, ?_⟩ -- l = l
    refine ⟨by first | with_reducible rfl | rfl, ?_⟩ -- w = w
    refine ⟨by first | with_reducible rfl | rfl, ?_⟩ -- t = t
    refine ⟨by first | with_reducible rfl | rfl, ?_⟩ -- e_11 = e_11
    refine ⟨by show n13 = (↑n13.toNat : Int); omega, ?_⟩ -- n13 = (↑n13.toNat : Int)
    refine ⟨by first | with_reducible rfl | rfl, ?_⟩ -- d = d
    refine ⟨?_, ?_⟩
    · -- left
      refine ⟨by show n13.toNat ≤ l.length; omega, ?_⟩ -- n13.toNat ≤ l.length
      refine ⟨by first | omega | (dsimp only; omega), ?_⟩ -- d.length ≤ (1000000 : Nat) ∧ l.length ≤ (1000000 : Nat)
      -- DrE d l n13.toNat e_11
      exact dr_r h2.2.2 c3.2 (by omega) q8 h4 (by omega)
    exact by show l.length - n13.toNat < l.length - v_3.fst; omega -- l.length - n13.toNat < l.length - v_3.fst
  · -- no
    simp at c3 -- (↑v_3.fst : Int) < n5 → ¬v_3.snd = (0 : Int)
    refine br_intro (fun c5 => ?_) (fun c5 => ?_) -- v_3.snd != (0 : Int)
    · -- yes
      simp at c5 -- ¬v_3.snd = (0 : Int)
      -- k (AV.tup [AV.agg [AV.nilsl], AV.int IntKind.i64 v_3.snd]) [] []
      exact hk.1 v_3.snd (do_of (h2.2.2.n c5) c5) c5
    · -- no
      simp at c5 -- v_3.snd = (0 : Int)
      intro n16
      intro q16 -- n16 = (↑l.length : Int)
      refine br_intro (fun c6 => ?_) (fun c6 => ?_) -- bif bif bif decide (w < (0 : Int)) then true else decide (w > n16) then true else decide (t < (0 : Int)) then true else decide (t > (64 : Int))
      · -- yes
        simp at c6 -- ((w < (0 : Int) ∨ n16 < w) ∨ t < (0 : Int)) ∨ (64 : Int) < t
        -- k (AV.tup [AV.agg [AV.nilsl], AV.int IntKind.i64 (2 : Int)]) [] []
        have e0 : err0 d l = 0 := dr_end (c5 ▸ h2.2.2) (Nat.le_of_not_lt fun c => c3 (by omega) c5)
        exact hk.1 2 (do_2 e0 (by omega)) (by decide)
      · -- no
        simp at c6 -- (((0 : Int) ≤ w ∧ w ≤ n16) ∧ (0 : Int) ≤ t) ∧ t ≤ (64 : Int)
        refine ⟨by first | omega | (dsimp only; omega), ?_⟩ -- d.length ≤ (1000000 : Nat)
        intro ys_18
        intro n_19
        intro h7 -- ys_18 = d
        intro h8 -- ys_18.length = n_19
        refine ⟨?_, ?_⟩
        · -- left
          refine ⟨(Int.toNat (0 : Int), ys_18), ?_⟩
          refine ⟨by first | with_reducible rfl | rfl, ?_⟩ -- l = l
          refine ⟨by first | with_reducible rfl | rfl, ?_⟩ -- w = w
          refine ⟨by first | with_reducible rfl | rfl, ?_⟩ -- t = t
          refine ⟨by show (0 : Int) = (↑(Int.toNat (0 : Int)) : Int); omega, ?_⟩ -- (0 : Int) = (↑(Int.toNat (0 : Int)) : Int)
          refine ⟨by first | with_reducible rfl | rfl, ?_⟩ -- (0 : Nat) = (0 : Nat)
          have h9 : n_19 = d.length := by
            rw [← h8, h7]
          refine ⟨h9, ?_⟩
          refine ⟨by first | with_reducible rfl | rfl, ?_⟩ -- ys_18 = ys_18
          refine ⟨by first | omega | (dsimp only; omega), ?_⟩ -- (↑(Int.toNat (0 : Int)) : Int) ≤ w ∧ w ≤ (↑l.length : Int)
          refine ⟨by first | omega | (dsimp only; omega), ?_⟩ -- d.length ≤ (1000000 : Nat) ∧ l.length ≤ (1000000 : Nat)
          have h10 : ok0 d l w t := by
            have e0 : err0 d l = 0 := dr_end (c5 ▸ h2.2.2) (Nat.le_of_not_lt fun c => c3 (by omega) c5)
            exact ok_of e0 (by omega)
          refine ⟨h10, ?_⟩
          refine ⟨by show ys_18.length = d.length; omega, ?_⟩ -- ys_18.length = d.length
          exact by show ys_18 = doF d l w t (Int.toNat (0 : Int)); assumption -- ys_18 = doF d l w t (Int.toNat (0 : Int))
        intro v_22
        intro h11 -- ((↑v_22.fst : Int) ≤ w ∧ w ≤ (↑l.length : Int)) ∧ (d.length ≤ (1000000 : Nat) ∧ l.length ≤ (1000000 : Nat)) ∧ ok0 d l w t ∧ v_22.snd.length = d.length ∧ v_22.snd = doF d l w t v_22.fst
        refine brd (fun c12 => ?_) (fun c12 => ?_) -- decide ((↑v_22.fst : Int) < w)
        · -- yes
          refine ⟨by first | omega | (dsimp only; omega), ?_⟩ -- (0 : Int) ≤ (↑v_22.fst : Int)
          refine ⟨by first | omega | (dsimp only; omega), ?_⟩ -- (↑v_22.fst : Int) < (↑l.length : Int)
          intro n24
          intro q24 -- n24 = (l.getD (↑v_22.fst : Int).toNat (dflt (9 : Nat))).n
          intro ⟨l24, u24⟩ -- (-9223372036854775808 : Int) ≤ n24 ∧ n24 ≤ (9223372036854775807 : Int)
          refine ⟨by first | omega | (dsimp only; omega), ?_⟩ -- (0 : Int) ≤ (↑v_22.fst : Int)
          refine ⟨by first | omega | (dsimp only; omega), ?_⟩ -- (↑v_22.fst : Int) < (↑l.length : Int)
          refine ⟨?_, ?_⟩
          · -- left
            refine ⟨?_, ?_⟩
            · -- left
              have h13 : (64 : Nat) ≤ (List.take d.length (List.drop (0 : Nat) v_22.snd)).length := by
                have o := (doE_0.1 h11.2.2.1.e).1
                rw [tk_len h11.2.2.2.1, h11.2.2.2.1]
                exact o.1
              refine ⟨h13, ?_⟩
              have h14 : (List.take d.length (List.drop (0 : Nat) v_22.snd)).length ≤ (4096 : Nat) := by
                have o := (doE_0.1 h11.2.2.1.e).1
                rw [tk_len h11.2.2.2.1, h11.2.2.2.1]
                exact o.2.1
              refine ⟨h14, ?_⟩
              -- (List.take d.length (List.drop (0 : Nat) v_22.snd)).length % (64 : Nat) = (0 : Nat)
              have o := (doE_0.1 h11.2.2.1.e).1
              rw [tk_len h11.2.2.2.1, h11.2.2.2.1]
              exact o.2.2
            refine ⟨?_, ?_⟩
            · -- left
              have h15 : (0 : Int) ≤ n24 := by
                exact (bk_room h11.2.2.1 (by omega) q24).1
              refine ⟨h15, ?_⟩
              -- (64 : Int) * n24 + (64 : Int) ≤ (↑(List.take d.length (List.drop (0 : Nat) v_22.snd)).length : Int)
              have := (bk_room h11.2.2.1 (by omega) q24).2.1
              rw [tk_len h11.2.2.2.1, h11.2.2.2.1]
              exact this
            have h16 : (l.getD (↑v_22.fst : Int).toNat (dflt (9 : Nat))).data.length = (64 : Nat) := by
              rw [Int.toNat_natCast]
              exact (bk_room h11.2.2.1 (by omega) q24).2.2
            refine ⟨h16, ?_⟩
            refine ⟨by first | omega | (dsimp only; omega), ?_⟩ -- (0 : Int) ≤ (64 : Int)
            exact by omega -- (64 : Int) ≤ (64 : Int)
          intro ys_27
          intro q_28
          intro h17 -- ys_27 = wr (List.take d.length (List.drop (0 : Nat) v_22.snd)) n24 (l.getD (↑v_22.fst : Int).toNat (dflt (9 : Nat))).data (Int.toNat (64 : Int))
          intro h18 -- ys_27.length = q_28
          intro n31
          intro q31 -- n31 = IntKind.i64.wrap ((↑v_22.fst : Int) + (1 : Int))
          rw [IntKind.wrap_i64] at q31
          intro ⟨l31, u31⟩ -- (-9223372036854775808 : Int) ≤ n31 ∧ n31 ≤ (9223372036854775807 : Int)
          refine ⟨(n31.toNat, ys_27), ?_⟩
          refine ⟨by first | with_reducible rfl | rfl, ?_⟩ -- l = l
          refine ⟨by first | with_reducible rfl | rfl, ?_⟩ -- w = w
          refine ⟨by first | with_reducible rfl | rfl, ?_⟩ -- t = t
          refine ⟨by show n31 = (↑n31.toNat : Int); omega, ?_⟩ -- n31 = (↑n31.toNat : Int)
          refine ⟨by first | with_reducible rfl | rfl, ?_⟩ -- (0 : Nat) = (0 : Nat)
          have h19 : q_28 = d.length := by
            rw [← h18]; exact (bk_r h11.2.2.1 (by omega) h11.2.2.2.1 h11.2.2.2.2 c12 q24 h17).2
          refine ⟨h19, ?_⟩
          refine ⟨by first | with_reducible rfl | rfl, ?_⟩ -- ys_27 = ys_27
          refine ⟨?_, ?_⟩
          · -- left
            refine ⟨by first | omega | (dsimp only; omega), ?_⟩ -- (↑n31.toNat : Int) ≤ w ∧ w ≤ (↑l.length : Int)
            refine ⟨by first | omega | (dsimp only; omega), ?_⟩ -- d.length ≤ (1000000 : Nat) ∧ l.length ≤ (1000000 : Nat)
            have h20 : ok0 d l w t := by
              exact h11.2.2.1
            refine ⟨h20, ?_⟩
            refine ⟨by show ys_27.length = d.length; omega, ?_⟩ -- ys_27.length = d.length
            -- ys_27 = doF d l w t n31.toNat
            rw [show n31.toNat = v_22.fst + 1 by omega]
            exact (bk_r h11.2.2.1 (by omega) h11.2.2.2.1 h11.2.2.2.2 c12 q24 h17).1
          exact by show (w - (↑n31.toNat : Int)).toNat < (w - (↑v_22.fst : Int)).toNat; omega -- (w - (↑n31.toNat : Int)).toNat < (w - (↑v_22.fst : Int)).toNat
        · -- no
          intro n34
          intro q34 -- n34 = (↑l.length : Int)
          intro ⟨l34, u34⟩ -- (-9223372036854775808 : Int) ≤ n34 ∧ n34 ≤ (9223372036854775807 : Int)
          refine brd (fun c21 => ?_) (fun c21 => ?_) -- decide (w < n34)
          · -- yes
            refine ⟨by first | omega | (dsimp only; omega), ?_⟩ -- (0 : Int) ≤ w
            refine ⟨by first | omega | (dsimp only; omega), ?_⟩ -- w < (↑l.length : Int)
            intro n37
            intro q37 -- n37 = (l.getD w.toNat (dflt (9 : Nat))).n
            intro ⟨l37, u37⟩ -- (-9223372036854775808 : Int) ≤ n37 ∧ n37 ≤ (9223372036854775807 : Int)
            refine ⟨by first | omega | (dsimp only; omega), ?_⟩ -- (0 : Int) ≤ w
            refine ⟨by first | omega | (dsimp only; omega), ?_⟩ -- w < (↑l.length : Int)
            refine ⟨?_, ?_⟩
            · -- left
              refine ⟨?_, ?_⟩
              · -- left
                have h22 : (64 : Nat) ≤ (List.take d.length (List.drop (0 : Nat) v_22.snd)).length := by
                  have o := (doE_0.1 h11.2.2.1.e).1
                  rw [tk_len h11.2.2.2.1, h11.2.2.2.1]
                  exact o.1
                refine ⟨h22, ?_⟩
                have h23 : (List.take d.length (List.drop (0 : Nat) v_22.snd)).length ≤ (4096 : Nat) := by
                  have o := (doE_0.1 h11.2.2.1.e).1
                  rw [tk_len h11.2.2.2.1, h11.2.2.2.1]
                  exact o.2.1
                refine ⟨h23, ?_⟩
                -- (List.take d.length (List.drop (0 : Nat) v_22.snd)).length % (64 : Nat) = (0 : Nat)
                have o := (doE_0.1 h11.2.2.1.e).1
                rw [tk_len h11.2.2.2.1, h11.2.2.2.1]
                exact o.2.2
              refine ⟨?_, ?_⟩
              · -- left
                have h24 : (0 : Int) ≤ n37 := by
                  exact (bk_room (n := n37) (i := w.toNat) h11.2.2.1 (by omega) (by rw [Int.toNat_natCast]; exact q37)).1
                refine ⟨h24, ?_⟩
                -- (64 : Int) * n37 + (64 : Int) ≤ (↑(List.take d.length (List.drop (0 : Nat) v_22.snd)).length : Int)
                have := (bk_room (n := n37) (i := w.toNat) h11.2.2.1 (by omega) (by rw [Int.toNat_natCast]; exact q37)).2.1
                rw [tk_len h11.2.2.2.1, h11.2.2.2.1]
                exact this
              have h25 : (l.getD w.toNat (dflt (9 : Nat))).data.length = (64 : Nat) := by
                exact (bk_room (n := n37) (i := w.toNat) h11.2.2.1 (by omega) (by rw [Int.toNat_natCast]; exact q37)).2.2
              refine ⟨h25, ?_⟩
              refine ⟨by first | omega | (dsimp only; omega), ?_⟩ -- (0 : Int) ≤ t
              exact by omega -- t ≤ (64 : Int)
            intro ys_40
            intro q_41
            intro h26 -- ys_40 = wr (List.take d.length (List.drop (0 : Nat) v_22.snd)) n37 (l.getD w.toNat (dflt (9 : Nat))).data t.toNat
            intro h27 -- ys_40.length = q_41
            -- k (AV.tup [AV.agg [AV.row (0 : Nat) (0 : Nat) (0 : Nat) q_41], AV.int IntKind.i64 (0 : Int)]) [] [Blk.row (0 : Nat) ys_40]
            exact hk.2 h11.2.2.1.e _ _ (bk_re h11.2.2.1 h11.2.2.2.1 h11.2.2.2.2 (by omega) (by omega) q37 h26) h27
          · -- no
            -- k (AV.tup [AV.agg [AV.row (0 : Nat) (0 : Nat) (0 : Nat) d.length], AV.int IntKind.i64 (0 : Int)]) [] [Blk.row (0 : Nat) v_22.snd]
            exact hk.2 h11.2.2.1.e _ _ (bk_end h11.2.2.1 h11.2.2.2.2 (by omega)) h11.2.2.2.1

theorem rbdo_ok : Holds Try.prog 21 doS := by
  refine fn_sound (env := mkEnv N5) (tab_ok N5_ok) Try.func21 Try.call21 fun args k h => ?_
  match args, h with
  | [.agg [.sl 0 d], .sl 9 l, .int .i64 w, .int .i64 t], h => exact ⟨by kernel_rfl, rdoLoops d l w t, fun _ _ => none, .cast (by kernel_rfl) (rbdo_vc d l w t h.1 k h.2)⟩
end Go.Proofs.Ytiekaipompepdaa

