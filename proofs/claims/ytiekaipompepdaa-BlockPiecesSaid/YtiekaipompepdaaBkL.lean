/- BlockTorn and BlockPieces: of writes that are broken off the first ones are done whole, of the next one the first bytes alone, and the others not at all; writes done in pieces come to what they come to at once. Any device, any writes and places. No conditions beyond the rows' own. -/
import Derived.Test.YtiekaipompepdaaBkK
import Derived.Test.YtiekaipompepdaaEngR
import Derived.Test.YtiekaipompepdaaRows
namespace Go.Proofs.Ytiekaipompepdaa
open Go Go.Eng Go.Bk Go.Proofs
set_option linter.unusedVariables false
set_option maxHeartbeats 2000000 in
theorem blockTorn_vc (d : List UInt8) (l : List Put) (w : Int) (w0 : (-9223372036854775808 : Int) ≤ w) (w1 : w ≤ (9223372036854775807 : Int)) (t : Int) (t0 : (-9223372036854775808 : Int) ≤ t) (t1 : t ≤ (9223372036854775807 : Int)) (k : AV → List (Option Blk) → List Blk → Prop) (hk : k (AV.bool true) [] []) :
  ∀ (n1 : Int),
  (n1 = (↑d.length : Int)) →
  ((-9223372036854775808 : Int) ≤ n1 ∧ n1 ≤ (9223372036854775807 : Int)) →
  ∀ (n4 : Int),
  (n4 = (↑l.length : Int)) →
  br (bif decide (n1 > (10000 : Int)) then true else decide (n4 > (64 : Int)))
   ((k (AV.bool true) [] []))
   ((
     ∃ (v : Nat),
     (l = l) ∧
     (w = w) ∧
     (t = t) ∧
     (true = true) ∧
     ((0 : Int) = (↑v : Int)) ∧
     (d = d) ∧
     (v ≤ l.length) ∧
     (
      (d.length ≤ (10000 : Nat)) ∧
      (l.length ≤ (64 : Nat))) ∧
     (Apart l v)) ∧
    ∀ (v_6 : Nat),
    (v_6 ≤ l.length ∧ (d.length ≤ (10000 : Nat) ∧ l.length ≤ (64 : Nat)) ∧ Apart l v_6) →
    ∀ (n8 : Int),
    (n8 = (↑l.length : Int)) →
    ((-9223372036854775808 : Int) ≤ n8 ∧ n8 ≤ (9223372036854775807 : Int)) →
    br (decide ((↑v_6 : Int) < n8))
     ((
       ∃ (v : Nat),
       (l = l) ∧
       (w = w) ∧
       (t = t) ∧
       (true = true) ∧
       ((↑v_6 : Int) = (↑v_6 : Int)) ∧
       ((0 : Int) = (↑v : Int)) ∧
       (d = d) ∧
       (v ≤ v_6) ∧
       (v_6 < l.length) ∧
       (
        (d.length ≤ (10000 : Nat)) ∧
        (l.length ≤ (64 : Nat))) ∧
       (ApK l v_6 v)) ∧
      ∀ (v_11 : Nat),
      (v_11 ≤ v_6 ∧ v_6 < l.length ∧ (d.length ≤ (10000 : Nat) ∧ l.length ≤ (64 : Nat)) ∧ ApK l v_6 v_11) →
      br (decide ((↑v_11 : Int) < (↑v_6 : Int)))
       (((0 : Int) ≤ (↑v_11 : Int)) ∧
        ((↑v_11 : Int) < (↑l.length : Int)) ∧
        ∀ (n13 : Int),
        (n13 = (l.getD (↑v_11 : Int).toNat (dflt (9 : Nat))).n) →
        ((-9223372036854775808 : Int) ≤ n13 ∧ n13 ≤ (9223372036854775807 : Int)) →
        ((0 : Int) ≤ (↑v_6 : Int)) ∧
        ((↑v_6 : Int) < (↑l.length : Int)) ∧
        ∀ (n16 : Int),
        (n16 = (l.getD (↑v_6 : Int).toNat (dflt (9 : Nat))).n) →
        ((-9223372036854775808 : Int) ≤ n16 ∧ n16 ≤ (9223372036854775807 : Int)) →
        br (n13 == n16)
         ((k (AV.bool true) [] []))
         (∀ (n19 : Int),
          (n19 = IntKind.i64.wrap ((↑v_11 : Int) + (1 : Int))) →
          ((-9223372036854775808 : Int) ≤ n19 ∧ n19 ≤ (9223372036854775807 : Int)) →
          ∃ (v' : Nat),
          (l = l) ∧
          (w = w) ∧
          (t = t) ∧
          (true = true) ∧
          ((↑v_6 : Int) = (↑v_6 : Int)) ∧
          (n19 = (↑v' : Int)) ∧
          (d = d) ∧
          (
           (v' ≤ v_6) ∧
           (v_6 < l.length) ∧
           (
            (d.length ≤ (10000 : Nat)) ∧
            (l.length ≤ (64 : Nat))) ∧
           (ApK l v_6 v')) ∧
          (v_6 - v' < v_6 - v_11)))
       (∀ (n22 : Int),
        (n22 = IntKind.i64.wrap ((↑v_6 : Int) + (1 : Int))) →
        ((-9223372036854775808 : Int) ≤ n22 ∧ n22 ≤ (9223372036854775807 : Int)) →
        ∃ (v' : Nat),
        (l = l) ∧
        (w = w) ∧
        (t = t) ∧
        (true = true) ∧
        (n22 = (↑v' : Int)) ∧
        (d = d) ∧
        (
         (v' ≤ l.length) ∧
         (
          (d.length ≤ (10000 : Nat)) ∧
          (l.length ≤ (64 : Nat))) ∧
         (Apart l v')) ∧
        (l.length - v' < l.length - v_6)))
     ((
       (d.length ≤ (1000000 : Nat)) ∧
       (l.length ≤ (1000000 : Nat))) ∧
      ∀ (e_25 : Int),
      ∀ (ys_26 : List UInt8),
      ∀ (n_27 : Nat),
      (e_25 = doE d l w t) →
      (ys_26 = doO d l w t) →
      (ys_26.length = n_27) →
      br (e_25 != (0 : Int))
       (∀ (n31 : Int),
        (n31 = (↑n_27 : Int)) →
        (k (AV.bool (bif true then n31 == (0 : Int) else false)) [] []))
       ((
         ∃ (v : Nat × Nat × List UInt8),
         (l = l) ∧
         (w = w) ∧
         (t = t) ∧
         (true = true) ∧
         ((0 : Int) = (↑v.fst : Int)) ∧
         (d = d) ∧
         ((0 : Nat) = (0 : Nat)) ∧
         (n_27 = v.snd.fst) ∧
         (ys_26 = v.snd.snd) ∧
         (v.fst ≤ l.length) ∧
         (
          (d.length ≤ (10000 : Nat)) ∧
          (l.length ≤ (64 : Nat))) ∧
         (v.snd.snd.length = v.snd.fst) ∧
         (v.snd.fst = d.length) ∧
         (ok0 d l w t) ∧
         (Apart l l.length) ∧
         (v.snd.snd = doO d l w t)) ∧
        ∀ (v_33 : Nat × Nat × List UInt8),
        (v_33.fst ≤ l.length ∧ (d.length ≤ (10000 : Nat) ∧ l.length ≤ (64 : Nat)) ∧ v_33.snd.snd.length = v_33.snd.fst ∧ v_33.snd.fst = d.length ∧ ok0 d l w t ∧ Apart l l.length ∧ v_33.snd.snd = doO d l w t) →
        ∀ (n35 : Int),
        (n35 = (↑l.length : Int)) →
        ((-9223372036854775808 : Int) ≤ n35 ∧ n35 ≤ (9223372036854775807 : Int)) →
        br (decide ((↑v_33.fst : Int) < n35))
         (((0 : Int) ≤ (↑v_33.fst : Int)) ∧
          ((↑v_33.fst : Int) < (↑l.length : Int)) ∧
          ∀ (n38 : Int),
          (n38 = (l.getD (↑v_33.fst : Int).toNat (dflt (9 : Nat))).n) →
          ((-9223372036854775808 : Int) ≤ n38 ∧ n38 ≤ (9223372036854775807 : Int)) →
          (d.length ≤ (1000000 : Nat)) ∧
          ∀ (e_41 : Int),
          ∀ (ys_42 : List UInt8),
          ∀ (q_43 : Nat),
          (e_41 = askE d n38) →
          (ys_42 = rdO d n38) →
          (ys_42.length = q_43) →
          ((0 : Int) ≤ (↑v_33.fst : Int)) ∧
          ((↑v_33.fst : Int) < (↑l.length : Int)) ∧
          ∀ (n47 : Int),
          (n47 = (l.getD (↑v_33.fst : Int).toNat (dflt (9 : Nat))).n) →
          ((-9223372036854775808 : Int) ≤ n47 ∧ n47 ≤ (9223372036854775807 : Int)) →
          ((List.take v_33.snd.fst (List.drop (0 : Nat) v_33.snd.snd)).length ≤ (1000000 : Nat)) ∧
          ∀ (e_50 : Int),
          ∀ (ys_51 : List UInt8),
          ∀ (q_52 : Nat),
          (e_50 = askE (List.take v_33.snd.fst (List.drop (0 : Nat) v_33.snd.snd)) n47) →
          (ys_51 = rdO (List.take v_33.snd.fst (List.drop (0 : Nat) v_33.snd.snd)) n47) →
          (ys_51.length = q_52) →
          ∀ (n56 : Int),
          (n56 = (↑q_52 : Int)) →
          ∀ (n58 : Int),
          (n58 = (↑q_43 : Int)) →
          (
           ((bif bif bif e_41 != (0 : Int) then true else e_50 != (0 : Int) then true else n56 != (64 : Int) then true else n58 != (64 : Int)) = false) →
           ((0 : Int) ≤ (↑v_33.fst : Int)) ∧
           ((↑v_33.fst : Int) < (↑l.length : Int))) ∧
          ∀ (n61 : Int),
          (n61 = (↑(l.getD (↑v_33.fst : Int).toNat (dflt (9 : Nat))).data.length : Int)) →
          br (bif bif bif bif e_41 != (0 : Int) then true else e_50 != (0 : Int) then true else n56 != (64 : Int) then true else n58 != (64 : Int) then true else n61 != (64 : Int))
           ((k (AV.bool false) [] []))
           (br (decide ((↑v_33.fst : Int) < w))
             (br ((↑v_33.fst : Int) == w)
               (((0 : Int) ≤ t) ∧
                (t ≤ (↑q_52 : Int)) ∧
                ((0 : Int) ≤ (↑v_33.fst : Int)) ∧
                ((↑v_33.fst : Int) < (↑l.length : Int)) ∧
                ((0 : Int) ≤ t) ∧
                (t ≤ (↑(l.getD (↑v_33.fst : Int).toNat (dflt (9 : Nat))).data.length : Int)) ∧
                (
                 ((!{ data := (List.take t.toNat (List.drop (0 : Nat) ys_51)).toArray : ByteArray }.data.toList == { data := (List.take t.toNat (l.getD (↑v_33.fst : Int).toNat (dflt (9 : Nat))).data).toArray : ByteArray }.data.toList) = false) →
                 ((0 : Int) ≤ t) ∧
                 (t ≤ (↑q_52 : Int))) ∧
                (
                 ((!{ data := (List.take t.toNat (List.drop (0 : Nat) ys_51)).toArray : ByteArray }.data.toList == { data := (List.take t.toNat (l.getD (↑v_33.fst : Int).toNat (dflt (9 : Nat))).data).toArray : ByteArray }.data.toList) = false) →
                 ((0 : Int) ≤ t) ∧
                 (t ≤ (↑q_43 : Int))) ∧
                br (bif !{ data := (List.take t.toNat (List.drop (0 : Nat) ys_51)).toArray : ByteArray }.data.toList == { data := (List.take t.toNat (l.getD (↑v_33.fst : Int).toNat (dflt (9 : Nat))).data).toArray : ByteArray }.data.toList then true else !{ data := (List.take (q_52 - t.toNat) (List.drop ((0 : Nat) + t.toNat) ys_51)).toArray : ByteArray }.data.toList == { data := (List.take (q_43 - t.toNat) (List.drop ((0 : Nat) + t.toNat) ys_42)).toArray : ByteArray }.data.toList)
                 ((k (AV.bool false) [] []))
                 (∀ (n65 : Int),
                  (n65 = IntKind.i64.wrap ((↑v_33.fst : Int) + (1 : Int))) →
                  ((-9223372036854775808 : Int) ≤ n65 ∧ n65 ≤ (9223372036854775807 : Int)) →
                  ∃ (v' : Nat × Nat × List UInt8),
                  (l = l) ∧
                  (w = w) ∧
                  (t = t) ∧
                  (true = true) ∧
                  (n65 = (↑v'.fst : Int)) ∧
                  (d = d) ∧
                  ((0 : Nat) = (0 : Nat)) ∧
                  (v_33.snd.fst = v'.snd.fst) ∧
                  (v_33.snd.snd = v'.snd.snd) ∧
                  (
                   (v'.fst ≤ l.length) ∧
                   (
                    (d.length ≤ (10000 : Nat)) ∧
                    (l.length ≤ (64 : Nat))) ∧
                   (v'.snd.snd.length = v'.snd.fst) ∧
                   (v'.snd.fst = d.length) ∧
                   (ok0 d l w t) ∧
                   (Apart l l.length) ∧
                   (v'.snd.snd = doO d l w t)) ∧
                  (l.length - v'.fst < l.length - v_33.fst)))
               (((0 : Int) ≤ (64 : Int)) ∧
                ((64 : Int) ≤ (↑q_52 : Int)) ∧
                ((0 : Int) ≤ (↑v_33.fst : Int)) ∧
                ((↑v_33.fst : Int) < (↑l.length : Int)) ∧
                ((0 : Int) ≤ (64 : Int)) ∧
                ((64 : Int) ≤ (↑(l.getD (↑v_33.fst : Int).toNat (dflt (9 : Nat))).data.length : Int)) ∧
                (
                 ((!{ data := (List.take (Int.toNat (64 : Int)) (List.drop (0 : Nat) ys_51)).toArray : ByteArray }.data.toList == { data := (List.take (Int.toNat (64 : Int)) (l.getD (↑v_33.fst : Int).toNat (dflt (9 : Nat))).data).toArray : ByteArray }.data.toList) = false) →
                 ((0 : Int) ≤ (64 : Int)) ∧
                 ((64 : Int) ≤ (↑q_52 : Int))) ∧
                (
                 ((!{ data := (List.take (Int.toNat (64 : Int)) (List.drop (0 : Nat) ys_51)).toArray : ByteArray }.data.toList == { data := (List.take (Int.toNat (64 : Int)) (l.getD (↑v_33.fst : Int).toNat (dflt (9 : Nat))).data).toArray : ByteArray }.data.toList) = false) →
                 ((0 : Int) ≤ (64 : Int)) ∧
                 ((64 : Int) ≤ (↑q_43 : Int))) ∧
                br (bif !{ data := (List.take (Int.toNat (64 : Int)) (List.drop (0 : Nat) ys_51)).toArray : ByteArray }.data.toList == { data := (List.take (Int.toNat (64 : Int)) (l.getD (↑v_33.fst : Int).toNat (dflt (9 : Nat))).data).toArray : ByteArray }.data.toList then true else !{ data := (List.take (q_52 - Int.toNat (64 : Int)) (List.drop ((0 : Nat) + Int.toNat (64 : Int)) ys_51)).toArray : ByteArray }.data.toList == { data := (List.take (q_43 - Int.toNat (64 : Int)) (List.drop ((0 : Nat) + Int.toNat (64 : Int)) ys_42)).toArray : ByteArray }.data.toList)
                 ((k (AV.bool false) [] []))
                 (∀ (n70 : Int),
                  (n70 = IntKind.i64.wrap ((↑v_33.fst : Int) + (1 : Int))) →
                  ((-9223372036854775808 : Int) ≤ n70 ∧ n70 ≤ (9223372036854775807 : Int)) →
                  ∃ (v' : Nat × Nat × List UInt8),
                  (l = l) ∧
                  (w = w) ∧
                  (t = t) ∧
                  (true = true) ∧
                  (n70 = (↑v'.fst : Int)) ∧
                  (d = d) ∧
                  ((0 : Nat) = (0 : Nat)) ∧
                  (v_33.snd.fst = v'.snd.fst) ∧
                  (v_33.snd.snd = v'.snd.snd) ∧
                  (
                   (v'.fst ≤ l.length) ∧
                   (
                    (d.length ≤ (10000 : Nat)) ∧
                    (l.length ≤ (64 : Nat))) ∧
                   (v'.snd.snd.length = v'.snd.fst) ∧
                   (v'.snd.fst = d.length) ∧
                   (ok0 d l w t) ∧
                   (Apart l l.length) ∧
                   (v'.snd.snd = doO d l w t)) ∧
                  (l.length - v'.fst < l.length - v_33.fst))))
             (br ((↑v_33.fst : Int) == w)
               (((0 : Int) ≤ t) ∧
                (t ≤ (↑q_52 : Int)) ∧
                ((0 : Int) ≤ (↑v_33.fst : Int)) ∧
                ((↑v_33.fst : Int) < (↑l.length : Int)) ∧
                ((0 : Int) ≤ t) ∧
                (t ≤ (↑(l.getD (↑v_33.fst : Int).toNat (dflt (9 : Nat))).data.length : Int)) ∧
                (
                 ((!{ data := (List.take t.toNat (List.drop (0 : Nat) ys_51)).toArray : ByteArray }.data.toList == { data := (List.take t.toNat (l.getD (↑v_33.fst : Int).toNat (dflt (9 : Nat))).data).toArray : ByteArray }.data.toList) = false) →
                 ((0 : Int) ≤ t) ∧
                 (t ≤ (↑q_52 : Int))) ∧
                (
                 ((!{ data := (List.take t.toNat (List.drop (0 : Nat) ys_51)).toArray : ByteArray }.data.toList == { data := (List.take t.toNat (l.getD (↑v_33.fst : Int).toNat (dflt (9 : Nat))).data).toArray : ByteArray }.data.toList) = false) →
                 ((0 : Int) ≤ t) ∧
                 (t ≤ (↑q_43 : Int))) ∧
                br (bif !{ data := (List.take t.toNat (List.drop (0 : Nat) ys_51)).toArray : ByteArray }.data.toList == { data := (List.take t.toNat (l.getD (↑v_33.fst : Int).toNat (dflt (9 : Nat))).data).toArray : ByteArray }.data.toList then true else !{ data := (List.take (q_52 - t.toNat) (List.drop ((0 : Nat) + t.toNat) ys_51)).toArray : ByteArray }.data.toList == { data := (List.take (q_43 - t.toNat) (List.drop ((0 : Nat) + t.toNat) ys_42)).toArray : ByteArray }.data.toList)
                 ((k (AV.bool false) [] []))
                 (∀ (n75 : Int),
                  (n75 = IntKind.i64.wrap ((↑v_33.fst : Int) + (1 : Int))) →
                  ((-9223372036854775808 : Int) ≤ n75 ∧ n75 ≤ (9223372036854775807 : Int)) →
                  ∃ (v' : Nat × Nat × List UInt8),
                  (l = l) ∧
                  (w = w) ∧
                  (t = t) ∧
                  (true = true) ∧
                  (n75 = (↑v'.fst : Int)) ∧
                  (d = d) ∧
                  ((0 : Nat) = (0 : Nat)) ∧
                  (v_33.snd.fst = v'.snd.fst) ∧
                  (v_33.snd.snd = v'.snd.snd) ∧
                  (
                   (v'.fst ≤ l.length) ∧
                   (
                    (d.length ≤ (10000 : Nat)) ∧
                    (l.length ≤ (64 : Nat))) ∧
                   (v'.snd.snd.length = v'.snd.fst) ∧
                   (v'.snd.fst = d.length) ∧
                   (ok0 d l w t) ∧
                   (Apart l l.length) ∧
                   (v'.snd.snd = doO d l w t)) ∧
                  (l.length - v'.fst < l.length - v_33.fst)))
               (((0 : Int) ≤ (0 : Int)) ∧
                ((0 : Int) ≤ (↑q_52 : Int)) ∧
                ((0 : Int) ≤ (↑v_33.fst : Int)) ∧
                ((↑v_33.fst : Int) < (↑l.length : Int)) ∧
                ((0 : Int) ≤ (0 : Int)) ∧
                ((0 : Int) ≤ (↑(l.getD (↑v_33.fst : Int).toNat (dflt (9 : Nat))).data.length : Int)) ∧
                (
                 ((!{ data := (List.take (Int.toNat (0 : Int)) (List.drop (0 : Nat) ys_51)).toArray : ByteArray }.data.toList == { data := (List.take (Int.toNat (0 : Int)) (l.getD (↑v_33.fst : Int).toNat (dflt (9 : Nat))).data).toArray : ByteArray }.data.toList) = false) →
                 ((0 : Int) ≤ (0 : Int)) ∧
                 ((0 : Int) ≤ (↑q_52 : Int))) ∧
                (
                 ((!{ data := (List.take (Int.toNat (0 : Int)) (List.drop (0 : Nat) ys_51)).toArray : ByteArray }.data.toList == { data := (List.take (Int.toNat (0 : Int)) (l.getD (↑v_33.fst : Int).toNat (dflt (9 : Nat))).data).toArray : ByteArray }.data.toList) = false) →
                 ((0 : Int) ≤ (0 : Int)) ∧
                 ((0 : Int) ≤ (↑q_43 : Int))) ∧
                br (bif !{ data := (List.take (Int.toNat (0 : Int)) (List.drop (0 : Nat) ys_51)).toArray : ByteArray }.data.toList == { data := (List.take (Int.toNat (0 : Int)) (l.getD (↑v_33.fst : Int).toNat (dflt (9 : Nat))).data).toArray : ByteArray }.data.toList then true else !{ data := (List.take (q_52 - Int.toNat (0 : Int)) (List.drop ((0 : Nat) + Int.toNat (0 : Int)) ys_51)).toArray : ByteArray }.data.toList == { data := (List.take (q_43 - Int.toNat (0 : Int)) (List.drop ((0 : Nat) + Int.toNat (0 : Int)) ys_42)).toArray : ByteArray }.data.toList)
                 ((k (AV.bool false) [] []))
                 (∀ (n80 : Int),
                  (n80 = IntKind.i64.wrap ((↑v_33.fst : Int) + (1 : Int))) →
                  ((-9223372036854775808 : Int) ≤ n80 ∧ n80 ≤ (9223372036854775807 : Int)) →
                  ∃ (v' : Nat × Nat × List UInt8),
                  (l = l) ∧
                  (w = w) ∧
                  (t = t) ∧
                  (true = true) ∧
                  (n80 = (↑v'.fst : Int)) ∧
                  (d = d) ∧
                  ((0 : Nat) = (0 : Nat)) ∧
                  (v_33.snd.fst = v'.snd.fst) ∧
                  (v_33.snd.snd = v'.snd.snd) ∧
                  (
                   (v'.fst ≤ l.length) ∧
                   (
                    (d.length ≤ (10000 : Nat)) ∧
                    (l.length ≤ (64 : Nat))) ∧
                   (v'.snd.snd.length = v'.snd.fst) ∧
                   (v'.snd.fst = d.length) ∧
                   (ok0 d l w t) ∧
                   (Apart l l.length) ∧
                   (v'.snd.snd = doO d l w t)) ∧
                  (l.length - v'.fst < l.length - v_33.fst))))))
         ((k (AV.bool true) [] []))))) := by
  intro n1
  intro q1 -- n1 = (↑d.length : Int)
  intro ⟨l1, u1⟩ -- (-9223372036854775808 : Int) ≤ n1 ∧ n1 ≤ (9223372036854775807 : Int)
  intro n4
  intro q4 -- n4 = (↑l.length : Int)
  refine br_intro (fun c1 => ?_) (fun c1 => ?_) -- bif decide (n1 > (10000 : Int)) then true else decide (n4 > (64 : Int))
  · -- yes
    simp at c1 -- (10000 : Int) < n1 ∨ (64 : Int) < n4
    exact by exact hk -- k (AV.bool true) [] []
  · -- no
    simp at c1 -- n1 ≤ (10000 : Int) ∧ n4 ≤ (64 : Int)
    refine ⟨?_, ?_⟩
    · -- left
      refine ⟨Int.toNat (0 : Int), ?_⟩
      refine ⟨by first | with_reducible rfl | rfl, ?_⟩ -- l = l
      refine ⟨by first | with_reducible rfl | rfl, ?_⟩ -- w = w
      refine ⟨by first | with_reducible rfl | rfl, ?_⟩ -- t = t
      refine ⟨by first | with_reducible rfl | rfl, ?_⟩ -- true = true
      refine ⟨by show (0 : Int) = (↑(Int.toNat (0 : Int)) : Int); omega, ?_⟩ -- (0 : Int) = (↑(Int.toNat (0 : Int)) : Int)
      refine ⟨by first | with_reducible rfl | rfl, ?_⟩ -- d = d
      refine ⟨by show Int.toNat (0 : Int) ≤ l.length; omega, ?_⟩ -- Int.toNat (0 : Int) ≤ l.length
      refine ⟨by first | omega | (dsimp only; omega), ?_⟩ -- d.length ≤ (10000 : Nat) ∧ l.length ≤ (64 : Nat)
      -- Apart l (Int.toNat (0 : Int))
      exact ap_0 l
    intro v_6
    intro h2 -- v_6 ≤ l.length ∧ (d.length ≤ (10000 : Nat) ∧ l.length ≤ (64 : Nat)) ∧ Apart l v_6
    intro n8
    intro q8 -- n8 = (↑l.length : Int)
    intro ⟨l8, u8⟩ -- (-9223372036854775808 : Int) ≤ n8 ∧ n8 ≤ (9223372036854775807 : Int)
    refine brd (fun c3 => ?_) (fun c3 => ?_) -- decide ((↑v_6 : Int) < n8)
    · -- yes
      refine ⟨?_, ?_⟩
      · -- left
        refine ⟨Int.toNat (0 : Int), ?_⟩
        refine ⟨by first | with_reducible rfl | rfl, ?_⟩ -- l = l
        refine ⟨by first | with_reducible rfl | rfl, ?_⟩ -- w = w
        refine ⟨by first | with_reducible rfl | rfl, ?_⟩ -- t = t
        refine ⟨by first | with_reducible rfl | rfl, ?_⟩ -- true = true
        refine ⟨by first | with_reducible rfl | rfl, ?_⟩ -- (↑v_6 : Int) = (↑v_6 : Int)
        refine ⟨by show (0 : Int) = (↑(Int.toNat (0 : Int)) : Int); omega, ?_⟩ -- (0 : Int) = (↑(Int.toNat (0 : Int)) : Int)
        refine ⟨by first | with_reducible rfl | rfl, ?_⟩ -- d = d
        refine ⟨by show Int.toNat (0 : Int) ≤ v_6; omega, ?_⟩ -- Int.toNat (0 : Int) ≤ v_6
        refine ⟨by show v_6 < l.length; omega, ?_⟩ -- v_6 < l.length
        refine ⟨by first | omega | (dsimp only; omega), ?_⟩ -- d.length ≤ (10000 : Nat) ∧ l.length ≤ (64 : Nat)
        -- ApK l v_6 (Int.toNat (0 : Int))
        exact apk_0 h2.2.2
      intro v_11
      intro h4 -- v_11 ≤ v_6 ∧ v_6 < l.length ∧ (d.length ≤ (10000 : Nat) ∧ l.length ≤ (64 : Nat)) ∧ ApK l v_6 v_11
      refine brd (fun c5 => ?_) (fun c5 => ?_) -- decide ((↑v_11 : Int) < (↑v_6 : Int))
      · -- yes
        refine ⟨by first | omega | (dsimp only; omega), ?_⟩ -- (0 : Int) ≤ (↑v_11 : Int)
        refine ⟨by first | omega | (dsimp only; omega), ?_⟩ -- (↑v_11 : Int) < (↑l.length : Int)
        intro n13
        intro q13 -- n13 = (l.getD (↑v_11 : Int).toNat (dflt (9 : Nat))).n
        intro ⟨l13, u13⟩ -- (-9223372036854775808 : Int) ≤ n13 ∧ n13 ≤ (9223372036854775807 : Int)
        refine ⟨by first | omega | (dsimp only; omega), ?_⟩ -- (0 : Int) ≤ (↑v_6 : Int)
        refine ⟨by first | omega | (dsimp only; omega), ?_⟩ -- (↑v_6 : Int) < (↑l.length : Int)
        intro n16
        intro q16 -- n16 = (l.getD (↑v_6 : Int).toNat (dflt (9 : Nat))).n
        intro ⟨l16, u16⟩ -- (-9223372036854775808 : Int) ≤ n16 ∧ n16 ≤ (9223372036854775807 : Int)
        refine br_intro (fun c6 => ?_) (fun c6 => ?_) -- n13 == n16
        · -- yes
          simp at c6 -- n13 = n16
          exact by exact hk -- k (AV.bool true) [] []
        · -- no
          simp at c6 -- ¬n13 = n16
          intro n19
          intro q19 -- n19 = IntKind.i64.wrap ((↑v_11 : Int) + (1 : Int))
          rw [IntKind.wrap_i64] at q19
          intro ⟨l19, u19⟩ -- (-9223372036854775808 : Int) ≤ n19 ∧ n19 ≤ (9223372036854775807 : Int)
          refine ⟨n19.toNat, ?_⟩
          refine ⟨by first | with_reducible rfl | rfl, ?_⟩ -- l = l
          refine ⟨by first | with_reducible rfl | rfl, ?_⟩ -- w = w
          refine ⟨by first | with_reducible rfl | rfl, ?_⟩ -- t = t
          refine ⟨by first | with_reducible rfl | rfl, ?_⟩ -- true = true
          refine ⟨by first | with_reducible rfl | rfl, ?_⟩ -- (↑v_6 : Int) = (↑v_6 : Int)
          refine ⟨by show n19 = (↑n19.toNat : Int); omega, ?_⟩ -- n19 = (↑n19.toNat : Int)
          refine ⟨by first | with_reducible rfl | rfl, ?_⟩ -- d = d
          refine ⟨?_, ?_⟩
          · -- left
            refine ⟨by show n19.toNat ≤ v_6; omega, ?_⟩ -- n19.toNat ≤ v_6
            refine ⟨by show v_6 < l.length; omega, ?_⟩ -- v_6 < l.length
            refine ⟨by first | omega | (dsimp only; omega), ?_⟩ -- d.length ≤ (10000 : Nat) ∧ l.length ≤ (64 : Nat)
            -- ApK l v_6 n19.toNat
            rw [Int.toNat_natCast] at q13 q16
            exact apk_step h4.2.2.2 (by omega) (by rw [← q13, ← q16]; exact c6)
          exact by show v_6 - n19.toNat < v_6 - v_11; omega -- v_6 - n19.toNat < v_6 - v_11
      · -- no
        intro n22
        intro q22 -- n22 = IntKind.i64.wrap ((↑v_6 : Int) + (1 : Int))
        rw [IntKind.wrap_i64] at q22
        intro ⟨l22, u22⟩ -- (-9223372036854775808 : Int) ≤ n22 ∧ n22 ≤ (9223372036854775807 : Int)
        refine ⟨n22.toNat, ?_⟩
        refine ⟨by first | with_reducible rfl | rfl, ?_⟩ -- l = l
        refine ⟨by first | with_reducible rfl | rfl, ?_⟩ -- w = w
        refine ⟨by first | with_reducible rfl | rfl, ?_⟩ -- t = t
        refine ⟨by first | with_reducible rfl | rfl, ?_⟩ -- true = true
        refine ⟨by show n22 = (↑n22.toNat : Int); omega, ?_⟩ -- n22 = (↑n22.toNat : Int)
        refine ⟨by first | with_reducible rfl | rfl, ?_⟩ -- d = d
        refine ⟨?_, ?_⟩
        · -- left
          refine ⟨by show n22.toNat ≤ l.length; omega, ?_⟩ -- n22.toNat ≤ l.length
          refine ⟨by first | omega | (dsimp only; omega), ?_⟩ -- d.length ≤ (10000 : Nat) ∧ l.length ≤ (64 : Nat)
          -- Apart l n22.toNat
          have e : v_11 = v_6 := by omega
          rw [e] at h4
          exact ap_step h4.2.2.2 (by omega)
        exact by show l.length - n22.toNat < l.length - v_6; omega -- l.length - n22.toNat < l.length - v_6
    · -- no
      refine ⟨by first | omega | (dsimp only; omega), ?_⟩ -- d.length ≤ (1000000 : Nat) ∧ l.length ≤ (1000000 : Nat)
      intro e_25
      intro ys_26
      intro n_27
      intro h7 -- e_25 = doE d l w t
      intro h8 -- ys_26 = doO d l w t
      intro h9 -- ys_26.length = n_27
      refine br_intro (fun c10 => ?_) (fun c10 => ?_) -- e_25 != (0 : Int)
      · -- yes
        simp at c10 -- ¬e_25 = (0 : Int)
        intro n31
        intro q31 -- n31 = (↑n_27 : Int)
        -- k (AV.bool (bif true then n31 == (0 : Int) else false)) [] []
        have z : n_27 = 0 := by rw [← h9, h8]; unfold doO; rw [if_neg (fun c => c10 (h7.trans c))]; rfl
        exact k_true hk (by rw [show n31 = 0 by omega]; rfl)
      · -- no
        simp at c10 -- e_25 = (0 : Int)
        refine ⟨?_, ?_⟩
        · -- left
          refine ⟨(Int.toNat (0 : Int), n_27, ys_26), ?_⟩
          refine ⟨by first | with_reducible rfl | rfl, ?_⟩ -- l = l
          refine ⟨by first | with_reducible rfl | rfl, ?_⟩ -- w = w
          refine ⟨by first | with_reducible rfl | rfl, ?_⟩ -- t = t
          refine ⟨by first | with_reducible rfl | rfl, ?_⟩ -- true = true
          refine ⟨by show (0 : Int) = (↑(Int.toNat (0 : Int)) : Int); omega, ?_⟩ -- (0 : Int) = (↑(Int.toNat (0 : Int)) : Int)
          refine ⟨by first | with_reducible rfl | rfl, ?_⟩ -- d = d
          refine ⟨by first | with_reducible rfl | rfl, ?_⟩ -- (0 : Nat) = (0 : Nat)
          refine ⟨by first | with_reducible rfl | rfl, ?_⟩ -- n_27 = n_27
          refine ⟨by first | with_reducible rfl | rfl, ?_⟩ -- ys_26 = ys_26
          refine ⟨by show Int.toNat (0 : Int) ≤ l.length; omega, ?_⟩ -- Int.toNat (0 : Int) ≤ l.length
          refine ⟨by first | omega | (dsimp only; omega), ?_⟩ -- d.length ≤ (10000 : Nat) ∧ l.length ≤ (64 : Nat)
          refine ⟨by show ys_26.length = n_27; assumption, ?_⟩ -- ys_26.length = n_27
          have h11 : n_27 = d.length := by
            rw [← h9, h8]; exact doO_eq (h7.symm.trans c10)
          refine ⟨h11, ?_⟩
          have h12 : ok0 d l w t := by
            exact ⟨h7.symm.trans c10⟩
          refine ⟨h12, ?_⟩
          have h13 : Apart l l.length := by
            have e : v_6 = l.length := by omega
            rw [← e]; exact h2.2.2
          refine ⟨h13, ?_⟩
          exact by show ys_26 = doO d l w t; assumption -- ys_26 = doO d l w t
        intro v_33
        intro h14 -- v_33.fst ≤ l.length ∧ (d.length ≤ (10000 : Nat) ∧ l.length ≤ (64 : Nat)) ∧ v_33.snd.snd.length = v_33.snd.fst ∧ v_33.snd.fst = d.length ∧ ok0 d l w t ∧ Apart l l.length ∧ v_33.snd.snd = doO d l w t
        intro n35
        intro q35 -- n35 = (↑l.length : Int)
        intro ⟨l35, u35⟩ -- (-9223372036854775808 : Int) ≤ n35 ∧ n35 ≤ (9223372036854775807 : Int)
        refine brd (fun c15 => ?_) (fun c15 => ?_) -- decide ((↑v_33.fst : Int) < n35)
        · -- yes
          refine ⟨by first | omega | (dsimp only; omega), ?_⟩ -- (0 : Int) ≤ (↑v_33.fst : Int)
          refine ⟨by first | omega | (dsimp only; omega), ?_⟩ -- (↑v_33.fst : Int) < (↑l.length : Int)
          intro n38
          intro q38 -- n38 = (l.getD (↑v_33.fst : Int).toNat (dflt (9 : Nat))).n
          intro ⟨l38, u38⟩ -- (-9223372036854775808 : Int) ≤ n38 ∧ n38 ≤ (9223372036854775807 : Int)
          refine ⟨by first | omega | (dsimp only; omega), ?_⟩ -- d.length ≤ (1000000 : Nat)
          intro e_41
          intro ys_42
          intro q_43
          intro h16 -- e_41 = askE d n38
          intro h17 -- ys_42 = rdO d n38
          intro h18 -- ys_42.length = q_43
          refine ⟨by first | omega | (dsimp only; omega), ?_⟩ -- (0 : Int) ≤ (↑v_33.fst : Int)
          refine ⟨by first | omega | (dsimp only; omega), ?_⟩ -- (↑v_33.fst : Int) < (↑l.length : Int)
          intro n47
          intro q47 -- n47 = (l.getD (↑v_33.fst : Int).toNat (dflt (9 : Nat))).n
          intro ⟨l47, u47⟩ -- (-9223372036854775808 : Int) ≤ n47 ∧ n47 ≤ (9223372036854775807 : Int)
          have h19 : (List.take v_33.snd.fst (List.drop (0 : Nat) v_33.snd.snd)).length ≤ (1000000 : Nat) := by
            rw [List.length_take]; omega
          refine ⟨h19, ?_⟩
          intro e_50
          intro ys_51
          intro q_52
          intro h20 -- e_50 = askE (List.take v_33.snd.fst (List.drop (0 : Nat) v_33.snd.snd)) n47
          intro h21 -- ys_51 = rdO (List.take v_33.snd.fst (List.drop (0 : Nat) v_33.snd.snd)) n47
          intro h22 -- ys_51.length = q_52
          intro n56
          intro q56 -- n56 = (↑q_52 : Int)
          intro n58
          intro q58 -- n58 = (↑q_43 : Int)
          refine ⟨?_, ?_⟩
          · -- left
            intro q58 -- (bif bif bif e_41 != (0 : Int) then true else e_50 != (0 : Int) then true else n56 != (64 : Int) then true else n58 != (64 : Int)) = false
            simp at q58 -- ((e_41 = (0 : Int) ∧ e_50 = (0 : Int)) ∧ n56 = (64 : Int)) ∧ n58 = (64 : Int)
            refine ⟨by first | omega | (dsimp only; omega), ?_⟩ -- (0 : Int) ≤ (↑v_33.fst : Int)
            exact by omega -- (↑v_33.fst : Int) < (↑l.length : Int)
          intro n61
          intro q61 -- n61 = (↑(l.getD (↑v_33.fst : Int).toNat (dflt (9 : Nat))).data.length : Int)
          refine br_intro (fun c23 => ?_) (fun c23 => ?_) -- bif bif bif bif e_41 != (0 : Int) then true else e_50 != (0 : Int) then true else n56 != (64 : Int) then true else n58 != (64 : Int) then true else n61 != (64 : Int)
          · -- yes
            simp at c23 -- (((¬e_41 = (0 : Int) ∨ ¬e_50 = (0 : Int)) ∨ ¬n56 = (64 : Int)) ∨ ¬n58 = (64 : Int)) ∨ ¬n61 = (64 : Int)
            -- k (AV.bool false) [] []
            have F := tornF h14.2.2.2.2.1.e h14.2.2.2.2.2.1 (i := v_33.fst) (by omega) q47
            have T : List.take v_33.snd.fst (List.drop 0 v_33.snd.snd) = doO d l w t := by rw [← h14.2.2.1, List.drop_zero, List.take_length]; exact h14.2.2.2.2.2.2
            rw [T] at h20 h21
            have N : n38 = n47 := by omega
            exfalso
            rcases c23 with (((c | c) | c) | c) | c
            · exact c (h16.trans (by rw [N]; exact F.1))
            · exact c (h20.trans F.2.1)
            · exact c (by rw [q56, ← h22, h21, F.2.2.2.1]; rfl)
            · exact c (by rw [q58, ← h18, h17, N, F.2.2.1]; rfl)
            · exact c (by rw [q61, Int.toNat_natCast, F.2.2.2.2.1]; rfl)
          · -- no
            simp at c23 -- (((e_41 = (0 : Int) ∧ e_50 = (0 : Int)) ∧ n56 = (64 : Int)) ∧ n58 = (64 : Int)) ∧ n61 = (64 : Int)
            refine brd (fun c24 => ?_) (fun c24 => ?_) -- decide ((↑v_33.fst : Int) < w)
            · -- yes
              refine br_intro (fun c25 => ?_) (fun c25 => ?_) -- (↑v_33.fst : Int) == w
              · -- yes
                simp at c25 -- (↑v_33.fst : Int) = w
                exfalso; omega
              · -- no
                simp at c25 -- ¬(↑v_33.fst : Int) = w
                refine ⟨by first | omega | (dsimp only; omega), ?_⟩ -- (0 : Int) ≤ (64 : Int)
                refine ⟨by first | omega | (dsimp only; omega), ?_⟩ -- (64 : Int) ≤ (↑q_52 : Int)
                refine ⟨by first | omega | (dsimp only; omega), ?_⟩ -- (0 : Int) ≤ (↑v_33.fst : Int)
                refine ⟨by first | omega | (dsimp only; omega), ?_⟩ -- (↑v_33.fst : Int) < (↑l.length : Int)
                refine ⟨by first | omega | (dsimp only; omega), ?_⟩ -- (0 : Int) ≤ (64 : Int)
                refine ⟨by first | omega | (dsimp only; omega), ?_⟩ -- (64 : Int) ≤ (↑(l.getD (↑v_33.fst : Int).toNat (dflt (9 : Nat))).data.length : Int)
                refine ⟨?_, ?_⟩
                · -- left
                  intro q61 -- (!{ data := (List.take (Int.toNat (64 : Int)) (List.drop (0 : Nat) ys_51)).toArray : ByteArray }.data.toList == { data := (List.take (Int.toNat (64 : Int)) (l.getD (↑v_33.fst : Int).toNat (dflt (9 : Nat))).data).toArray : ByteArray }.data.toList) = false
                  simp at q61 -- List.take (64 : Nat) ys_51 = List.take (64 : Nat) (l[v_33.fst]?.getD (dflt (9 : Nat))).data
                  refine ⟨by first | omega | (dsimp only; omega), ?_⟩ -- (0 : Int) ≤ (64 : Int)
                  exact by omega -- (64 : Int) ≤ (↑q_52 : Int)
                refine ⟨?_, ?_⟩
                · -- left
                  intro q61 -- (!{ data := (List.take (Int.toNat (64 : Int)) (List.drop (0 : Nat) ys_51)).toArray : ByteArray }.data.toList == { data := (List.take (Int.toNat (64 : Int)) (l.getD (↑v_33.fst : Int).toNat (dflt (9 : Nat))).data).toArray : ByteArray }.data.toList) = false
                  simp at q61 -- List.take (64 : Nat) ys_51 = List.take (64 : Nat) (l[v_33.fst]?.getD (dflt (9 : Nat))).data
                  refine ⟨by first | omega | (dsimp only; omega), ?_⟩ -- (0 : Int) ≤ (64 : Int)
                  exact by omega -- (64 : Int) ≤ (↑q_43 : Int)
                refine br_intro (fun c26 => ?_) (fun c26 => ?_) -- bif !{ data := (List.take (Int.toNat (64 : Int)) (List.drop (0 : Nat) ys_51)).toArray : ByteArray }.data.toList == { data := (List.take (Int.toNat (64 : Int)) (l.getD (↑v_33.fst : Int).toNat (dflt (9 : Nat))).data).toArray : ByteArray }.data.toList then true else !{ data := (List.take (q_52 - Int.toNat (64 : Int)) (List.drop ((0 : Nat) + Int.toNat (64 : Int)) ys_51)).toArray : ByteArray }.data.toList == { data := (List.take (q_43 - Int.toNat (64 : Int)) (List.drop ((0 : Nat) + Int.toNat (64 : Int)) ys_42)).toArray : ByteArray }.data.toList
                · -- yes
                  simp at c26 -- ¬List.take (64 : Nat) ys_51 = List.take (64 : Nat) (l[v_33.fst]?.getD (dflt (9 : Nat))).data ∨ ¬List.take (q_52 - (64 : Nat)) (List.drop (64 : Nat) ys_51) = List.take (q_43 - (64 : Nat)) (List.drop (64 : Nat) ys_42)
                  -- k (AV.bool false) [] []
                  have F := tornF h14.2.2.2.2.1.e h14.2.2.2.2.2.1 (i := v_33.fst) (by omega) q47
                  have T : List.take v_33.snd.fst (List.drop 0 v_33.snd.snd) = doO d l w t := by rw [← h14.2.2.1, List.drop_zero, List.take_length]; exact h14.2.2.2.2.2.2
                  rw [T] at h20 h21
                  have N : n38 = n47 := by omega
                  have M : manyB w t v_33.fst = 64 := by unfold manyB; rw [if_pos c24]
                  have t64 := (doE_0.1 h14.2.2.2.2.1.e).2.2.2
                  have X := torn_take F.2.2.2.2.2 F.2.2.2.2.1 (by rw [M]; omega)
                  rw [M] at X
                  exfalso
                  rcases c26 with c | c
                  · exact c (by rw [h21, ← List.getD_eq_getElem?_getD]; exact X.1)
                  · exact c (by rw [← h22, ← h18, h21, h17, N, X.2, F.2.2.2.1, F.2.2.1])
                · -- no
                  simp at c26 -- List.take (64 : Nat) ys_51 = List.take (64 : Nat) (l[v_33.fst]?.getD (dflt (9 : Nat))).data ∧ List.take (q_52 - (64 : Nat)) (List.drop (64 : Nat) ys_51) = List.take (q_43 - (64 : Nat)) (List.drop (64 : Nat) ys_42)
                  intro n70
                  intro q70 -- n70 = IntKind.i64.wrap ((↑v_33.fst : Int) + (1 : Int))
                  rw [IntKind.wrap_i64] at q70
                  intro ⟨l70, u70⟩ -- (-9223372036854775808 : Int) ≤ n70 ∧ n70 ≤ (9223372036854775807 : Int)
                  refine ⟨(n70.toNat, v_33.snd.fst, v_33.snd.snd), ?_⟩
                  refine ⟨by first | with_reducible rfl | rfl, ?_⟩ -- l = l
                  refine ⟨by first | with_reducible rfl | rfl, ?_⟩ -- w = w
                  refine ⟨by first | with_reducible rfl | rfl, ?_⟩ -- t = t
                  refine ⟨by first | with_reducible rfl | rfl, ?_⟩ -- true = true
                  refine ⟨by show n70 = (↑n70.toNat : Int); omega, ?_⟩ -- n70 = (↑n70.toNat : Int)
                  refine ⟨by first | with_reducible rfl | rfl, ?_⟩ -- d = d
                  refine ⟨by first | with_reducible rfl | rfl, ?_⟩ -- (0 : Nat) = (0 : Nat)
                  refine ⟨by first | with_reducible rfl | rfl, ?_⟩ -- v_33.snd.fst = v_33.snd.fst
                  refine ⟨by first | with_reducible rfl | rfl, ?_⟩ -- v_33.snd.snd = v_33.snd.snd
                  refine ⟨?_, ?_⟩
                  · -- left
                    refine ⟨by show n70.toNat ≤ l.length; omega, ?_⟩ -- n70.toNat ≤ l.length
                    refine ⟨by first | omega | (dsimp only; omega), ?_⟩ -- d.length ≤ (10000 : Nat) ∧ l.length ≤ (64 : Nat)
                    refine ⟨by show v_33.snd.snd.length = v_33.snd.fst; omega, ?_⟩ -- v_33.snd.snd.length = v_33.snd.fst
                    refine ⟨by show v_33.snd.fst = d.length; omega, ?_⟩ -- v_33.snd.fst = d.length
                    have h27 : ok0 d l w t := by
                      exact h14.2.2.2.2.1
                    refine ⟨h27, ?_⟩
                    have h28 : Apart l l.length := by
                      exact h14.2.2.2.2.2.1
                    refine ⟨h28, ?_⟩
                    -- v_33.snd.snd = doO d l w t
                    exact h14.2.2.2.2.2.2
                  exact by show l.length - n70.toNat < l.length - v_33.fst; omega -- l.length - n70.toNat < l.length - v_33.fst
            · -- no
              refine br_intro (fun c29 => ?_) (fun c29 => ?_) -- (↑v_33.fst : Int) == w
              · -- yes
                simp at c29 -- (↑v_33.fst : Int) = w
                have h30 : (0 : Int) ≤ t := by
                  exact (doE_0.1 h14.2.2.2.2.1.e).2.2.2.1
                refine ⟨h30, ?_⟩
                have h31 : t ≤ (↑q_52 : Int) := by
                  have F := tornF h14.2.2.2.2.1.e h14.2.2.2.2.2.1 (i := v_33.fst) (by omega) q47
                  have T : List.take v_33.snd.fst (List.drop 0 v_33.snd.snd) = doO d l w t := by rw [← h14.2.2.1, List.drop_zero, List.take_length]; exact h14.2.2.2.2.2.2
                  rw [T] at h20 h21
                  have N : n38 = n47 := by omega
                  have t64 := (doE_0.1 h14.2.2.2.2.1.e).2.2.2.2
                  rw [← h22, h21, F.2.2.2.1]
                  omega
                refine ⟨h31, ?_⟩
                refine ⟨by first | omega | (dsimp only; omega), ?_⟩ -- (0 : Int) ≤ (↑v_33.fst : Int)
                refine ⟨by first | omega | (dsimp only; omega), ?_⟩ -- (↑v_33.fst : Int) < (↑l.length : Int)
                refine ⟨by assumption, ?_⟩ -- (0 : Int) ≤ t
                refine ⟨by first | omega | (dsimp only; omega), ?_⟩ -- t ≤ (↑(l.getD (↑v_33.fst : Int).toNat (dflt (9 : Nat))).data.length : Int)
                refine ⟨?_, ?_⟩
                · -- left
                  intro h32 -- (!{ data := (List.take t.toNat (List.drop (0 : Nat) ys_51)).toArray : ByteArray }.data.toList == { data := (List.take t.toNat (l.getD (↑v_33.fst : Int).toNat (dflt (9 : Nat))).data).toArray : ByteArray }.data.toList) = false
                  simp at h32 -- List.take t.toNat ys_51 = List.take t.toNat (l[v_33.fst]?.getD (dflt (9 : Nat))).data
                  refine ⟨by assumption, ?_⟩ -- (0 : Int) ≤ t
                  exact by assumption -- t ≤ (↑q_52 : Int)
                refine ⟨?_, ?_⟩
                · -- left
                  intro h33 -- (!{ data := (List.take t.toNat (List.drop (0 : Nat) ys_51)).toArray : ByteArray }.data.toList == { data := (List.take t.toNat (l.getD (↑v_33.fst : Int).toNat (dflt (9 : Nat))).data).toArray : ByteArray }.data.toList) = false
                  simp at h33 -- List.take t.toNat ys_51 = List.take t.toNat (l[v_33.fst]?.getD (dflt (9 : Nat))).data
                  refine ⟨by assumption, ?_⟩ -- (0 : Int) ≤ t
                  exact by omega -- t ≤ (↑q_43 : Int)
                refine br_intro (fun c34 => ?_) (fun c34 => ?_) -- bif !{ data := (List.take t.toNat (List.drop (0 : Nat) ys_51)).toArray : ByteArray }.data.toList == { data := (List.take t.toNat (l.getD (↑v_33.fst : Int).toNat (dflt (9 : Nat))).data).toArray : ByteArray }.data.toList then true else !{ data := (List.take (q_52 - t.toNat) (List.drop ((0 : Nat) + t.toNat) ys_51)).toArray : ByteArray }.data.toList == { data := (List.take (q_43 - t.toNat) (List.drop ((0 : Nat) + t.toNat) ys_42)).toArray : ByteArray }.data.toList
                · -- yes
                  simp at c34 -- ¬List.take t.toNat ys_51 = List.take t.toNat (l[v_33.fst]?.getD (dflt (9 : Nat))).data ∨ ¬List.take (q_52 - t.toNat) (List.drop t.toNat ys_51) = List.take (q_43 - t.toNat) (List.drop t.toNat ys_42)
                  -- k (AV.bool false) [] []
                  have F := tornF h14.2.2.2.2.1.e h14.2.2.2.2.2.1 (i := v_33.fst) (by omega) q47
                  have T : List.take v_33.snd.fst (List.drop 0 v_33.snd.snd) = doO d l w t := by rw [← h14.2.2.1, List.drop_zero, List.take_length]; exact h14.2.2.2.2.2.2
                  rw [T] at h20 h21
                  have N : n38 = n47 := by omega
                  have M : manyB w t v_33.fst = t.toNat := by unfold manyB; rw [if_neg c24, if_pos c29]
                  have t64 := (doE_0.1 h14.2.2.2.2.1.e).2.2.2
                  have X := torn_take F.2.2.2.2.2 F.2.2.2.2.1 (by rw [M]; omega)
                  rw [M] at X
                  exfalso
                  rcases c34 with c | c
                  · exact c (by rw [h21, ← List.getD_eq_getElem?_getD]; exact X.1)
                  · exact c (by rw [← h22, ← h18, h21, h17, N, X.2, F.2.2.2.1, F.2.2.1])
                · -- no
                  simp at c34 -- List.take t.toNat ys_51 = List.take t.toNat (l[v_33.fst]?.getD (dflt (9 : Nat))).data ∧ List.take (q_52 - t.toNat) (List.drop t.toNat ys_51) = List.take (q_43 - t.toNat) (List.drop t.toNat ys_42)
                  intro n75
                  intro q75 -- n75 = IntKind.i64.wrap ((↑v_33.fst : Int) + (1 : Int))
                  rw [IntKind.wrap_i64] at q75
                  intro ⟨l75, u75⟩ -- (-9223372036854775808 : Int) ≤ n75 ∧ n75 ≤ (9223372036854775807 : Int)
                  refine ⟨(n75.toNat, v_33.snd.fst, v_33.snd.snd), ?_⟩
                  refine ⟨by first | with_reducible rfl | rfl, ?_⟩ -- l = l
                  refine ⟨by first | with_reducible rfl | rfl, ?_⟩ -- w = w
                  refine ⟨by first | with_reducible rfl | rfl, ?_⟩ -- t = t
                  refine ⟨by first | with_reducible rfl | rfl, ?_⟩ -- true = true
                  refine ⟨by show n75 = (↑n75.toNat : Int); omega, ?_⟩ -- n75 = (↑n75.toNat : Int)
                  refine ⟨by first | with_reducible rfl | rfl, ?_⟩ -- d = d
                  refine ⟨by first | with_reducible rfl | rfl, ?_⟩ -- (0 : Nat) = (0 : Nat)
                  refine ⟨by first | with_reducible rfl | rfl, ?_⟩ -- v_33.snd.fst = v_33.snd.fst
                  refine ⟨by first | with_reducible rfl | rfl, ?_⟩ -- v_33.snd.snd = v_33.snd.snd
                  refine ⟨?_, ?_⟩
                  · -- left
                    refine ⟨by show n75.toNat ≤ l.length; omega, ?_⟩ -- n75.toNat ≤ l.length
                    refine ⟨by first | omega | (dsimp only; omega), ?_⟩ -- d.length ≤ (10000 : Nat) ∧ l.length ≤ (64 : Nat)
                    refine ⟨by show v_33.snd.snd.length = v_33.snd.fst; omega, ?_⟩ -- v_33.snd.snd.length = v_33.snd.fst
                    refine ⟨by show v_33.snd.fst = d.length; omega, ?_⟩ -- v_33.snd.fst = d.length
                    have h35 : ok0 d l w t := by
                      exact h14.2.2.2.2.1
                    refine ⟨h35, ?_⟩
                    have h36 : Apart l l.length := by
                      exact h14.2.2.2.2.2.1
                    refine ⟨h36, ?_⟩
                    -- v_33.snd.snd = doO d l w t
                    exact h14.2.2.2.2.2.2
                  exact by show l.length - n75.toNat < l.length - v_33.fst; omega -- l.length - n75.toNat < l.length - v_33.fst
              · -- no
                simp at c29 -- ¬(↑v_33.fst : Int) = w
                refine ⟨by first | omega | (dsimp only; omega), ?_⟩ -- (0 : Int) ≤ (0 : Int)
                refine ⟨by first | omega | (dsimp only; omega), ?_⟩ -- (0 : Int) ≤ (↑q_52 : Int)
                refine ⟨by first | omega | (dsimp only; omega), ?_⟩ -- (0 : Int) ≤ (↑v_33.fst : Int)
                refine ⟨by first | omega | (dsimp only; omega), ?_⟩ -- (↑v_33.fst : Int) < (↑l.length : Int)
                refine ⟨by first | omega | (dsimp only; omega), ?_⟩ -- (0 : Int) ≤ (0 : Int)
                refine ⟨by first | omega | (dsimp only; omega), ?_⟩ -- (0 : Int) ≤ (↑(l.getD (↑v_33.fst : Int).toNat (dflt (9 : Nat))).data.length : Int)
                refine ⟨?_, ?_⟩
                · -- left
                  intro h37 -- (!{ data := (List.take (Int.toNat (0 : Int)) (List.drop (0 : Nat) ys_51)).toArray : ByteArray }.data.toList == { data := (List.take (Int.toNat (0 : Int)) (l.getD (↑v_33.fst : Int).toNat (dflt (9 : Nat))).data).toArray : ByteArray }.data.toList) = false
                  simp at h37 -- True
                  refine ⟨by first | omega | (dsimp only; omega), ?_⟩ -- (0 : Int) ≤ (0 : Int)
                  exact by omega -- (0 : Int) ≤ (↑q_52 : Int)
                refine ⟨?_, ?_⟩
                · -- left
                  intro h38 -- (!{ data := (List.take (Int.toNat (0 : Int)) (List.drop (0 : Nat) ys_51)).toArray : ByteArray }.data.toList == { data := (List.take (Int.toNat (0 : Int)) (l.getD (↑v_33.fst : Int).toNat (dflt (9 : Nat))).data).toArray : ByteArray }.data.toList) = false
                  simp at h38 -- True
                  refine ⟨by first | omega | (dsimp only; omega), ?_⟩ -- (0 : Int) ≤ (0 : Int)
                  exact by omega -- (0 : Int) ≤ (↑q_43 : Int)
                refine br_intro (fun c39 => ?_) (fun c39 => ?_) -- bif !{ data := (List.take (Int.toNat (0 : Int)) (List.drop (0 : Nat) ys_51)).toArray : ByteArray }.data.toList == { data := (List.take (Int.toNat (0 : Int)) (l.getD (↑v_33.fst : Int).toNat (dflt (9 : Nat))).data).toArray : ByteArray }.data.toList then true else !{ data := (List.take (q_52 - Int.toNat (0 : Int)) (List.drop ((0 : Nat) + Int.toNat (0 : Int)) ys_51)).toArray : ByteArray }.data.toList == { data := (List.take (q_43 - Int.toNat (0 : Int)) (List.drop ((0 : Nat) + Int.toNat (0 : Int)) ys_42)).toArray : ByteArray }.data.toList
                · -- yes
                  simp at c39 -- ¬List.take q_52 ys_51 = List.take q_43 ys_42
                  -- k (AV.bool false) [] []
                  have F := tornF h14.2.2.2.2.1.e h14.2.2.2.2.2.1 (i := v_33.fst) (by omega) q47
                  have T : List.take v_33.snd.fst (List.drop 0 v_33.snd.snd) = doO d l w t := by rw [← h14.2.2.1, List.drop_zero, List.take_length]; exact h14.2.2.2.2.2.2
                  rw [T] at h20 h21
                  have N : n38 = n47 := by omega
                  have M : manyB w t v_33.fst = 0 := by unfold manyB; rw [if_neg c24, if_neg c29]
                  have t64 := (doE_0.1 h14.2.2.2.2.1.e).2.2.2
                  have X := torn_take F.2.2.2.2.2 F.2.2.2.2.1 (by rw [M]; omega)
                  rw [M] at X
                  exfalso
                  exact c39 (by rw [← h22, ← h18, List.take_length, List.take_length, h21, h17, N]; exact X.2)
                · -- no
                  simp at c39 -- List.take q_52 ys_51 = List.take q_43 ys_42
                  intro n80
                  intro q80 -- n80 = IntKind.i64.wrap ((↑v_33.fst : Int) + (1 : Int))
                  rw [IntKind.wrap_i64] at q80
                  intro ⟨l80, u80⟩ -- (-9223372036854775808 : Int) ≤ n80 ∧ n80 ≤ (9223372036854775807 : Int)
                  refine ⟨(n80.toNat, v_33.snd.fst, v_33.snd.snd), ?_⟩
                  refine ⟨by first | with_reducible rfl | rfl, ?_⟩ -- l = l
                  refine ⟨by first | with_reducible rfl | rfl, ?_⟩ -- w = w
                  refine ⟨by first | with_reducible rfl | rfl, ?_⟩ -- t = t
                  refine ⟨by first | with_reducible rfl | rfl, ?_⟩ -- true = true
                  refine ⟨by show n80 = (↑n80.toNat : Int); omega, ?_⟩ -- n80 = (↑n80.toNat : Int)
                  refine ⟨by first | with_reducible rfl | rfl, ?_⟩ -- d = d
                  refine ⟨by first | with_reducible rfl | rfl, ?_⟩ -- (0 : Nat) = (0 : Nat)
                  refine ⟨by first | with_reducible rfl | rfl, ?_⟩ -- v_33.snd.fst = v_33.snd.fst
                  refine ⟨by first | with_reducible rfl | rfl, ?_⟩ -- v_33.snd.snd = v_33.snd.snd
                  refine ⟨?_, ?_⟩
                  · -- left
                    refine ⟨by show n80.toNat ≤ l.length; omega, ?_⟩ -- n80.toNat ≤ l.length
                    refine ⟨by first | omega | (dsimp only; omega), ?_⟩ -- d.length ≤ (10000 : Nat) ∧ l.length ≤ (64 : Nat)
                    refine ⟨by show v_33.snd.snd.length = v_33.snd.fst; omega, ?_⟩ -- v_33.snd.snd.length = v_33.snd.fst
                    refine ⟨by show v_33.snd.fst = d.length; omega, ?_⟩ -- v_33.snd.fst = d.length
                    have h40 : ok0 d l w t := by
                      exact h14.2.2.2.2.1
                    refine ⟨h40, ?_⟩
                    have h41 : Apart l l.length := by
                      exact h14.2.2.2.2.2.1
                    refine ⟨h41, ?_⟩
                    -- v_33.snd.snd = doO d l w t
                    exact h14.2.2.2.2.2.2
                  exact by show l.length - n80.toNat < l.length - v_33.fst; omega -- l.length - n80.toNat < l.length - v_33.fst
        · -- no
          exact by exact hk -- k (AV.bool true) [] []

theorem blockTorn_ok : Holds Try.prog 3 lawTorn := by
  refine fn_sound (env := mkEnv N8) (tab_ok N8_ok) Try.func3 Try.call3 fun args k h => ?_
  match args, h with
  | [.agg [.sl 0 d], .sl 9 l, .int .i64 w, .int .i64 t], h => exact ⟨by kernel_rfl, tornLoops d l w t, fun _ _ => none, .cast (by kernel_rfl) (blockTorn_vc d l w h.1.1 h.1.2 t h.2.1.1 h.2.1.2 k h.2.2)⟩
set_option maxHeartbeats 2000000 in
theorem blockPieces_vc (d : List UInt8) (l : List Put) (at_ : Int) (at_0 : (-9223372036854775808 : Int) ≤ at_) (at_1 : at_ ≤ (9223372036854775807 : Int)) (k : AV → List (Option Blk) → List Blk → Prop) (hk : k (AV.bool true) [] []) :
  ∀ (n1 : Int),
  (n1 = (↑d.length : Int)) →
  ((-9223372036854775808 : Int) ≤ n1 ∧ n1 ≤ (9223372036854775807 : Int)) →
  ∀ (n4 : Int),
  (n4 = (↑l.length : Int)) →
  ∀ (n6 : Int),
  (n6 = (↑l.length : Int)) →
  br (bif bif bif decide (n1 > (10000 : Int)) then true else decide (n4 > (64 : Int)) then true else decide (at_ < (0 : Int)) then true else decide (at_ > n6))
   ((k (AV.bool true) [] []))
   (∀ (n8 : Int),
    (n8 = (↑l.length : Int)) →
    ((-9223372036854775808 : Int) ≤ n8 ∧ n8 ≤ (9223372036854775807 : Int)) →
    (
     (d.length ≤ (1000000 : Nat)) ∧
     (l.length ≤ (1000000 : Nat))) ∧
    ∀ (e_11 : Int),
    ∀ (ys_12 : List UInt8),
    ∀ (n_13 : Nat),
    (e_11 = doE d l n8 (0 : Int)) →
    (ys_12 = doO d l n8 (0 : Int)) →
    (ys_12.length = n_13) →
    br (e_11 != (0 : Int))
     (∀ (n17 : Int),
      (n17 = (↑n_13 : Int)) →
      (k (AV.bool (bif true then n17 == (0 : Int) else false)) [] []))
     ((
       (d.length ≤ (1000000 : Nat)) ∧
       (l.length ≤ (1000000 : Nat))) ∧
      ∀ (e_19 : Int),
      ∀ (ys_20 : List UInt8),
      ∀ (n_21 : Nat),
      (e_19 = doE d l at_ (0 : Int)) →
      (ys_20 = doO d l at_ (0 : Int)) →
      (ys_20.length = n_21) →
      ((0 : Int) ≤ at_) ∧
      (at_ ≤ (↑l.length : Int)) ∧
      ∀ (n25 : Int),
      (n25 = (↑l.length : Int)) →
      ((-9223372036854775808 : Int) ≤ n25 ∧ n25 ≤ (9223372036854775807 : Int)) →
      ∀ (n28 : Int),
      (n28 = IntKind.i64.wrap (n25 - at_)) →
      ((-9223372036854775808 : Int) ≤ n28 ∧ n28 ≤ (9223372036854775807 : Int)) →
      (
       (
        ((List.take n_21 (List.drop (0 : Nat) ys_20)).length ≤ (1000000 : Nat)) ∧
        ((List.drop at_.toNat l).length ≤ (1000000 : Nat))) ∧
       ∀ (e_31 : Int),
       ∀ (ys_32 : List UInt8),
       ∀ (n_33 : Nat),
       (e_31 = doE (List.take n_21 (List.drop (0 : Nat) ys_20)) (List.drop at_.toNat l) n28 (0 : Int)) →
       (ys_32 = doO (List.take n_21 (List.drop (0 : Nat) ys_20)) (List.drop at_.toNat l) n28 (0 : Int)) →
       (ys_32.length = n_33) →
       br (bif e_19 != (0 : Int) then true else e_31 != (0 : Int))
        ((true = true) ∧
         (k (AV.bool false) [] []))
        (∀ (r_37 : Bool),
         (r_37 = true ↔ List.take n_13 (List.drop (0 : Nat) ys_12) = List.take n_33 (List.drop (0 : Nat) ys_32)) →
         br (bif false then true else !r_37)
          ((k (AV.bool false) [] []))
          (∀ (n39 : Int),
           (n39 = (↑l.length : Int)) →
           ((-9223372036854775808 : Int) ≤ n39 ∧ n39 ≤ (9223372036854775807 : Int)) →
           br (at_ == n39)
            (∀ (r_42 : Bool),
             (r_42 = true ↔ List.take n_13 (List.drop (0 : Nat) ys_12) = List.take n_21 (List.drop (0 : Nat) ys_20)) →
             (k (AV.bool (bif true then r_42 else false)) [] []))
            ((
              (d.length ≤ (1000000 : Nat)) ∧
              (l.length ≤ (1000000 : Nat))) ∧
             ∀ (e_44 : Int),
             ∀ (ys_45 : List UInt8),
             ∀ (n_46 : Nat),
             (e_44 = doE d l at_ (64 : Int)) →
             (ys_45 = doO d l at_ (64 : Int)) →
             (ys_45.length = n_46) →
             ∀ (n50 : Int),
             (n50 = IntKind.i64.wrap (at_ + (1 : Int))) →
             ((-9223372036854775808 : Int) ≤ n50 ∧ n50 ≤ (9223372036854775807 : Int)) →
             (
              (d.length ≤ (1000000 : Nat)) ∧
              (l.length ≤ (1000000 : Nat))) ∧
             ∀ (e_53 : Int),
             ∀ (ys_54 : List UInt8),
             ∀ (n_55 : Nat),
             (e_53 = doE d l n50 (0 : Int)) →
             (ys_54 = doO d l n50 (0 : Int)) →
             (ys_54.length = n_55) →
             br (bif bif true then e_44 == (0 : Int) else false then e_53 == (0 : Int) else false)
              (∀ (r_59 : Bool),
               (r_59 = true ↔ List.take n_46 (List.drop (0 : Nat) ys_45) = List.take n_55 (List.drop (0 : Nat) ys_54)) →
               (k (AV.bool (bif true then r_59 else false)) [] []))
              ((false = false) ∧
               (k (AV.bool false) [] [])))))) ∧
      (
       ((List.take n_21 (List.drop (0 : Nat) ys_20)).length ≤ (1000000 : Nat)) ∧
       ((List.drop at_.toNat l).length ≤ (1000000 : Nat))) ∧
      ∀ (e_61 : Int),
      ∀ (ys_62 : List UInt8),
      ∀ (n_63 : Nat),
      (e_61 = doE (List.take n_21 (List.drop (0 : Nat) ys_20)) (List.drop at_.toNat l) n28 (0 : Int)) →
      (ys_62 = doO (List.take n_21 (List.drop (0 : Nat) ys_20)) (List.drop at_.toNat l) n28 (0 : Int)) →
      (ys_62.length = n_63) →
      br (bif e_19 != (0 : Int) then true else e_61 != (0 : Int))
       ((true = true) ∧
        (k (AV.bool false) [] []))
       (∀ (r_67 : Bool),
        (r_67 = true ↔ List.take n_13 (List.drop (0 : Nat) ys_12) = List.take n_63 (List.drop (0 : Nat) ys_62)) →
        br (bif false then true else !r_67)
         ((k (AV.bool false) [] []))
         (∀ (n69 : Int),
          (n69 = (↑l.length : Int)) →
          ((-9223372036854775808 : Int) ≤ n69 ∧ n69 ≤ (9223372036854775807 : Int)) →
          br (at_ == n69)
           (∀ (r_72 : Bool),
            (r_72 = true ↔ List.take n_13 (List.drop (0 : Nat) ys_12) = List.take n_21 (List.drop (0 : Nat) ys_20)) →
            (k (AV.bool (bif true then r_72 else false)) [] []))
           ((
             (d.length ≤ (1000000 : Nat)) ∧
             (l.length ≤ (1000000 : Nat))) ∧
            ∀ (e_74 : Int),
            ∀ (ys_75 : List UInt8),
            ∀ (n_76 : Nat),
            (e_74 = doE d l at_ (64 : Int)) →
            (ys_75 = doO d l at_ (64 : Int)) →
            (ys_75.length = n_76) →
            ∀ (n80 : Int),
            (n80 = IntKind.i64.wrap (at_ + (1 : Int))) →
            ((-9223372036854775808 : Int) ≤ n80 ∧ n80 ≤ (9223372036854775807 : Int)) →
            (
             (d.length ≤ (1000000 : Nat)) ∧
             (l.length ≤ (1000000 : Nat))) ∧
            ∀ (e_83 : Int),
            ∀ (ys_84 : List UInt8),
            ∀ (n_85 : Nat),
            (e_83 = doE d l n80 (0 : Int)) →
            (ys_84 = doO d l n80 (0 : Int)) →
            (ys_84.length = n_85) →
            br (bif bif true then e_74 == (0 : Int) else false then e_83 == (0 : Int) else false)
             (∀ (r_89 : Bool),
              (r_89 = true ↔ List.take n_76 (List.drop (0 : Nat) ys_75) = List.take n_85 (List.drop (0 : Nat) ys_84)) →
              (k (AV.bool (bif true then r_89 else false)) [] []))
             ((false = false) ∧
              (k (AV.bool false) [] []))))))) := by
  intro n1
  intro q1 -- n1 = (↑d.length : Int)
  intro ⟨l1, u1⟩ -- (-9223372036854775808 : Int) ≤ n1 ∧ n1 ≤ (9223372036854775807 : Int)
  intro n4
  intro q4 -- n4 = (↑l.length : Int)
  intro n6
  intro q6 -- n6 = (↑l.length : Int)
  refine br_intro (fun c1 => ?_) (fun c1 => ?_) -- bif bif bif decide (n1 > (10000 : Int)) then true else decide (n4 > (64 : Int)) then true else decide (at_ < (0 : Int)) then true else decide (at_ > n6)
  · -- yes
    simp at c1 -- (((10000 : Int) < n1 ∨ (64 : Int) < n4) ∨ at_ < (0 : Int)) ∨ n6 < at_
    exact by exact hk -- k (AV.bool true) [] []
  · -- no
    simp at c1 -- ((n1 ≤ (10000 : Int) ∧ n4 ≤ (64 : Int)) ∧ (0 : Int) ≤ at_) ∧ at_ ≤ n6
    intro n8
    intro q8 -- n8 = (↑l.length : Int)
    intro ⟨l8, u8⟩ -- (-9223372036854775808 : Int) ≤ n8 ∧ n8 ≤ (9223372036854775807 : Int)
    refine ⟨by first | omega | (dsimp only; omega), ?_⟩ -- d.length ≤ (1000000 : Nat) ∧ l.length ≤ (1000000 : Nat)
    intro e_11
    intro ys_12
    intro n_13
    intro h2 -- e_11 = doE d l n8 (0 : Int)
    intro h3 -- ys_12 = doO d l n8 (0 : Int)
    intro h4 -- ys_12.length = n_13
    refine br_intro (fun c5 => ?_) (fun c5 => ?_) -- e_11 != (0 : Int)
    · -- yes
      simp at c5 -- ¬e_11 = (0 : Int)
      intro n17
      intro q17 -- n17 = (↑n_13 : Int)
      -- k (AV.bool (bif true then n17 == (0 : Int) else false)) [] []
      have z : n_13 = 0 := by rw [← h4, h3]; unfold doO; rw [if_neg (fun c => c5 (h2.trans c))]; rfl
      exact k_true hk (by rw [show n17 = 0 by omega]; rfl)
    · -- no
      simp at c5 -- e_11 = (0 : Int)
      refine ⟨by first | omega | (dsimp only; omega), ?_⟩ -- d.length ≤ (1000000 : Nat) ∧ l.length ≤ (1000000 : Nat)
      intro e_19
      intro ys_20
      intro n_21
      intro h6 -- e_19 = doE d l at_ (0 : Int)
      intro h7 -- ys_20 = doO d l at_ (0 : Int)
      intro h8 -- ys_20.length = n_21
      refine ⟨by first | omega | (dsimp only; omega), ?_⟩ -- (0 : Int) ≤ at_
      refine ⟨by first | omega | (dsimp only; omega), ?_⟩ -- at_ ≤ (↑l.length : Int)
      intro n25
      intro q25 -- n25 = (↑l.length : Int)
      intro ⟨l25, u25⟩ -- (-9223372036854775808 : Int) ≤ n25 ∧ n25 ≤ (9223372036854775807 : Int)
      intro n28
      intro q28 -- n28 = IntKind.i64.wrap (n25 - at_)
      rw [IntKind.wrap_i64] at q28
      intro ⟨l28, u28⟩ -- (-9223372036854775808 : Int) ≤ n28 ∧ n28 ≤ (9223372036854775807 : Int)
      refine ⟨?_, ?_⟩
      · -- left
        refine ⟨?_, ?_⟩
        · -- left
          have h9 : (List.take n_21 (List.drop (0 : Nat) ys_20)).length ≤ (1000000 : Nat) := by
            have z := doO_len d l at_ 0
            rw [← h7] at z
            rw [List.length_take, List.length_drop]
            omega
          refine ⟨h9, ?_⟩
          -- (List.drop at_.toNat l).length ≤ (1000000 : Nat)
          rw [List.length_drop]; omega
        intro e_31
        intro ys_32
        intro n_33
        intro h10 -- e_31 = doE (List.take n_21 (List.drop (0 : Nat) ys_20)) (List.drop at_.toNat l) n28 (0 : Int)
        intro h11 -- ys_32 = doO (List.take n_21 (List.drop (0 : Nat) ys_20)) (List.drop at_.toNat l) n28 (0 : Int)
        intro h12 -- ys_32.length = n_33
        refine br_intro (fun c13 => ?_) (fun c13 => ?_) -- bif e_19 != (0 : Int) then true else e_31 != (0 : Int)
        · -- yes
          simp at c13 -- ¬e_19 = (0 : Int) ∨ ¬e_31 = (0 : Int)
          refine ⟨by with_reducible rfl, ?_⟩ -- true = true
          -- k (AV.bool false) [] []
          obtain ⟨i, rfl⟩ : ∃ i : Nat, at_ = (i : Int) := ⟨at_.toNat, by omega⟩
          have Z : doE d l (l.length : Int) 0 = 0 := by rw [← q8, ← h2]; exact c5
          have P := pieces (d := d) (l := l) (i := i) (by omega) Z
          have T : List.take n_21 (List.drop 0 ys_20) = doO d l i 0 := by rw [← h8, List.drop_zero, List.take_length, h7]
          have N : n28 = (l.length : Int) - i := by omega
          rw [T, N, Int.toNat_natCast] at h10 h11
          exfalso
          rcases c13 with c | c
          · exact c (h6.trans P.1)
          · exact c (h10.trans P.2.1)
        · -- no
          simp at c13 -- e_19 = (0 : Int) ∧ e_31 = (0 : Int)
          intro r_37
          intro h14 -- r_37 = true ↔ List.take n_13 (List.drop (0 : Nat) ys_12) = List.take n_33 (List.drop (0 : Nat) ys_32)
          refine br_intro (fun c15 => ?_) (fun c15 => ?_) -- bif false then true else !r_37
          · -- yes
            simp at c15 -- r_37 = false
            -- k (AV.bool false) [] []
            obtain ⟨i, rfl⟩ : ∃ i : Nat, at_ = (i : Int) := ⟨at_.toNat, by omega⟩
            have Z : doE d l (l.length : Int) 0 = 0 := by rw [← q8, ← h2]; exact c5
            have P := pieces (d := d) (l := l) (i := i) (by omega) Z
            have T : List.take n_21 (List.drop 0 ys_20) = doO d l i 0 := by rw [← h8, List.drop_zero, List.take_length, h7]
            have N : n28 = (l.length : Int) - i := by omega
            rw [T, N, Int.toNat_natCast] at h10 h11
            exfalso
            have R := h14.2 (by rw [← h4, ← h12, List.drop_zero, List.take_length, List.drop_zero, List.take_length, h3, h11]; rw [q8]; exact P.2.2)
            rw [R] at c15; cases c15
          · -- no
            simp at c15 -- r_37 = true
            intro n39
            intro q39 -- n39 = (↑l.length : Int)
            intro ⟨l39, u39⟩ -- (-9223372036854775808 : Int) ≤ n39 ∧ n39 ≤ (9223372036854775807 : Int)
            refine br_intro (fun c16 => ?_) (fun c16 => ?_) -- at_ == n39
            · -- yes
              simp at c16 -- at_ = n39
              intro r_42
              intro h17 -- r_42 = true ↔ List.take n_13 (List.drop (0 : Nat) ys_12) = List.take n_21 (List.drop (0 : Nat) ys_20)
              -- k (AV.bool (bif true then r_42 else false)) [] []
              exact k_true hk (by rw [h17.2 (by rw [← h4, ← h8, List.drop_zero, List.take_length, List.drop_zero, List.take_length, h3, h7]; rw [show n8 = at_ by omega])]; rfl)
            · -- no
              simp at c16 -- ¬at_ = n39
              refine ⟨by first | omega | (dsimp only; omega), ?_⟩ -- d.length ≤ (1000000 : Nat) ∧ l.length ≤ (1000000 : Nat)
              intro e_44
              intro ys_45
              intro n_46
              intro h18 -- e_44 = doE d l at_ (64 : Int)
              intro h19 -- ys_45 = doO d l at_ (64 : Int)
              intro h20 -- ys_45.length = n_46
              intro n50
              intro q50 -- n50 = IntKind.i64.wrap (at_ + (1 : Int))
              rw [IntKind.wrap_i64] at q50
              intro ⟨l50, u50⟩ -- (-9223372036854775808 : Int) ≤ n50 ∧ n50 ≤ (9223372036854775807 : Int)
              refine ⟨by first | omega | (dsimp only; omega), ?_⟩ -- d.length ≤ (1000000 : Nat) ∧ l.length ≤ (1000000 : Nat)
              intro e_53
              intro ys_54
              intro n_55
              intro h21 -- e_53 = doE d l n50 (0 : Int)
              intro h22 -- ys_54 = doO d l n50 (0 : Int)
              intro h23 -- ys_54.length = n_55
              refine br_intro (fun c24 => ?_) (fun c24 => ?_) -- bif bif true then e_44 == (0 : Int) else false then e_53 == (0 : Int) else false
              · -- yes
                simp at c24 -- e_44 = (0 : Int) ∧ e_53 = (0 : Int)
                intro r_59
                intro h25 -- r_59 = true ↔ List.take n_46 (List.drop (0 : Nat) ys_45) = List.take n_55 (List.drop (0 : Nat) ys_54)
                -- k (AV.bool (bif true then r_59 else false)) [] []
                obtain ⟨i, rfl⟩ : ∃ i : Nat, at_ = (i : Int) := ⟨at_.toNat, by omega⟩
                have Z : doE d l (l.length : Int) 0 = 0 := by rw [← q8, ← h2]; exact c5
                have P := pieces (d := d) (l := l) (i := i) (by omega) Z
                have T : List.take n_21 (List.drop 0 ys_20) = doO d l i 0 := by rw [← h8, List.drop_zero, List.take_length, h7]
                have N : n28 = (l.length : Int) - i := by omega
                rw [T, N, Int.toNat_natCast] at h10 h11
                have W := whole_torn (d := d) (l := l) (i := i) (by omega) Z
                have N2 : n50 = (i : Int) + 1 := by omega
                exact k_true hk (by rw [h25.2 (by rw [← h20, ← h23, List.drop_zero, List.take_length, List.drop_zero, List.take_length, h19, h22]; rw [N2]; exact W.2.2)]; rfl)
              · -- no
                simp at c24 -- e_44 = (0 : Int) → ¬e_53 = (0 : Int)
                refine ⟨by with_reducible rfl, ?_⟩ -- false = false
                -- k (AV.bool false) [] []
                obtain ⟨i, rfl⟩ : ∃ i : Nat, at_ = (i : Int) := ⟨at_.toNat, by omega⟩
                have Z : doE d l (l.length : Int) 0 = 0 := by rw [← q8, ← h2]; exact c5
                have P := pieces (d := d) (l := l) (i := i) (by omega) Z
                have T : List.take n_21 (List.drop 0 ys_20) = doO d l i 0 := by rw [← h8, List.drop_zero, List.take_length, h7]
                have N : n28 = (l.length : Int) - i := by omega
                rw [T, N, Int.toNat_natCast] at h10 h11
                have W := whole_torn (d := d) (l := l) (i := i) (by omega) Z
                have N2 : n50 = (i : Int) + 1 := by omega
                exfalso
                exact c24 (h18.trans W.1) (h21.trans (by rw [N2]; exact W.2.1))
      refine ⟨?_, ?_⟩
      · -- left
        have h26 : (List.take n_21 (List.drop (0 : Nat) ys_20)).length ≤ (1000000 : Nat) := by
          have z := doO_len d l at_ 0
          rw [← h7] at z
          rw [List.length_take, List.length_drop]
          omega
        refine ⟨h26, ?_⟩
        -- (List.drop at_.toNat l).length ≤ (1000000 : Nat)
        rw [List.length_drop]; omega
      intro e_61
      intro ys_62
      intro n_63
      intro h27 -- e_61 = doE (List.take n_21 (List.drop (0 : Nat) ys_20)) (List.drop at_.toNat l) n28 (0 : Int)
      intro h28 -- ys_62 = doO (List.take n_21 (List.drop (0 : Nat) ys_20)) (List.drop at_.toNat l) n28 (0 : Int)
      intro h29 -- ys_62.length = n_63
      refine br_intro (fun c30 => ?_) (fun c30 => ?_) -- bif e_19 != (0 : Int) then true else e_61 != (0 : Int)
      · -- yes
        simp at c30 -- ¬e_19 = (0 : Int) ∨ ¬e_61 = (0 : Int)
        refine ⟨by with_reducible rfl, ?_⟩ -- true = true
        -- k (AV.bool false) [] []
        obtain ⟨i, rfl⟩ : ∃ i : Nat, at_ = (i : Int) := ⟨at_.toNat, by omega⟩
        have Z : doE d l (l.length : Int) 0 = 0 := by rw [← q8, ← h2]; exact c5
        have P := pieces (d := d) (l := l) (i := i) (by omega) Z
        have T : List.take n_21 (List.drop 0 ys_20) = doO d l i 0 := by rw [← h8, List.drop_zero, List.take_length, h7]
        have N : n28 = (l.length : Int) - i := by omega
        rw [T, N, Int.toNat_natCast] at h27 h28
        exfalso
        rcases c30 with c | c
        · exact c (h6.trans P.1)
        · exact c (h27.trans P.2.1)
      · -- no
        simp at c30 -- e_19 = (0 : Int) ∧ e_61 = (0 : Int)
        intro r_67
        intro h31 -- r_67 = true ↔ List.take n_13 (List.drop (0 : Nat) ys_12) = List.take n_63 (List.drop (0 : Nat) ys_62)
        refine br_intro (fun c32 => ?_) (fun c32 => ?_) -- bif false then true else !r_67
        · -- yes
          simp at c32 -- r_67 = false
          -- k (AV.bool false) [] []
          obtain ⟨i, rfl⟩ : ∃ i : Nat, at_ = (i : Int) := ⟨at_.toNat, by omega⟩
          have Z : doE d l (l.length : Int) 0 = 0 := by rw [← q8, ← h2]; exact c5
          have P := pieces (d := d) (l := l) (i := i) (by omega) Z
          have T : List.take n_21 (List.drop 0 ys_20) = doO d l i 0 := by rw [← h8, List.drop_zero, List.take_length, h7]
          have N : n28 = (l.length : Int) - i := by omega
          rw [T, N, Int.toNat_natCast] at h27 h28
          exfalso
          have R := h31.2 (by rw [← h4, ← h29, List.drop_zero, List.take_length, List.drop_zero, List.take_length, h3, h28]; rw [q8]; exact P.2.2)
          rw [R] at c32; cases c32
        · -- no
          simp at c32 -- r_67 = true
          intro n69
          intro q69 -- n69 = (↑l.length : Int)
          intro ⟨l69, u69⟩ -- (-9223372036854775808 : Int) ≤ n69 ∧ n69 ≤ (9223372036854775807 : Int)
          refine br_intro (fun c33 => ?_) (fun c33 => ?_) -- at_ == n69
          · -- yes
            simp at c33 -- at_ = n69
            intro r_72
            intro h34 -- r_72 = true ↔ List.take n_13 (List.drop (0 : Nat) ys_12) = List.take n_21 (List.drop (0 : Nat) ys_20)
            -- k (AV.bool (bif true then r_72 else false)) [] []
            exact k_true hk (by rw [h34.2 (by rw [← h4, ← h8, List.drop_zero, List.take_length, List.drop_zero, List.take_length, h3, h7]; rw [show n8 = at_ by omega])]; rfl)
          · -- no
            simp at c33 -- ¬at_ = n69
            refine ⟨by first | omega | (dsimp only; omega), ?_⟩ -- d.length ≤ (1000000 : Nat) ∧ l.length ≤ (1000000 : Nat)
            intro e_74
            intro ys_75
            intro n_76
            intro h35 -- e_74 = doE d l at_ (64 : Int)
            intro h36 -- ys_75 = doO d l at_ (64 : Int)
            intro h37 -- ys_75.length = n_76
            intro n80
            intro q80 -- n80 = IntKind.i64.wrap (at_ + (1 : Int))
            rw [IntKind.wrap_i64] at q80
            intro ⟨l80, u80⟩ -- (-9223372036854775808 : Int) ≤ n80 ∧ n80 ≤ (9223372036854775807 : Int)
            refine ⟨by first | omega | (dsimp only; omega), ?_⟩ -- d.length ≤ (1000000 : Nat) ∧ l.length ≤ (1000000 : Nat)
            intro e_83
            intro ys_84
            intro n_85
            intro h38 -- e_83 = doE d l n80 (0 : Int)
            intro h39 -- ys_84 = doO d l n80 (0 : Int)
            intro h40 -- ys_84.length = n_85
            refine br_intro (fun c41 => ?_) (fun c41 => ?_) -- bif bif true then e_74 == (0 : Int) else false then e_83 == (0 : Int) else false
            · -- yes
              simp at c41 -- e_74 = (0 : Int) ∧ e_83 = (0 : Int)
              intro r_89
              intro h42 -- r_89 = true ↔ List.take n_76 (List.drop (0 : Nat) ys_75) = List.take n_85 (List.drop (0 : Nat) ys_84)
              -- k (AV.bool (bif true then r_89 else false)) [] []
              obtain ⟨i, rfl⟩ : ∃ i : Nat, at_ = (i : Int) := ⟨at_.toNat, by omega⟩
              have Z : doE d l (l.length : Int) 0 = 0 := by rw [← q8, ← h2]; exact c5
              have P := pieces (d := d) (l := l) (i := i) (by omega) Z
              have T : List.take n_21 (List.drop 0 ys_20) = doO d l i 0 := by rw [← h8, List.drop_zero, List.take_length, h7]
              have N : n28 = (l.length : Int) - i := by omega
              rw [T, N, Int.toNat_natCast] at h27 h28
              have W := whole_torn (d := d) (l := l) (i := i) (by omega) Z
              have N2 : n80 = (i : Int) + 1 := by omega
              exact k_true hk (by rw [h42.2 (by rw [← h37, ← h40, List.drop_zero, List.take_length, List.drop_zero, List.take_length, h36, h39]; rw [N2]; exact W.2.2)]; rfl)
            · -- no
              simp at c41 -- e_74 = (0 : Int) → ¬e_83 = (0 : Int)
              refine ⟨by with_reducible rfl, ?_⟩ -- false = false
              -- k (AV.bool false) [] []
              obtain ⟨i, rfl⟩ : ∃ i : Nat, at_ = (i : Int) := ⟨at_.toNat, by omega⟩
              have Z : doE d l (l.length : Int) 0 = 0 := by rw [← q8, ← h2]; exact c5
              have P := pieces (d := d) (l := l) (i := i) (by omega) Z
              have T : List.take n_21 (List.drop 0 ys_20) = doO d l i 0 := by rw [← h8, List.drop_zero, List.take_length, h7]
              have N : n28 = (l.length : Int) - i := by omega
              rw [T, N, Int.toNat_natCast] at h27 h28
              have W := whole_torn (d := d) (l := l) (i := i) (by omega) Z
              have N2 : n80 = (i : Int) + 1 := by omega
              exfalso
              exact c41 (h35.trans W.1) (h38.trans (by rw [N2]; exact W.2.1))

theorem blockPieces_ok : Holds Try.prog 5 lawPieces := by
  refine fn_sound (env := mkEnv N8) (tab_ok N8_ok) Try.func5 Try.call5 fun args k h => ?_
  match args, h with
  | [.agg [.sl 0 d], .sl 9 l, .int .i64 at_], h => exact ⟨by kernel_rfl, fun _ _ => none, fun _ _ => none, .cast (by kernel_rfl) (blockPieces_vc d l at_ h.1.1 h.1.2 k h.2)⟩
end Go.Proofs.Ytiekaipompepdaa
namespace Go.Proofs.Ytiekaipompepdaa
open Go.ChangeShapes Go.WideShapes Go.ChangeAt Go.RowKit Go.Eng
set_option linter.unusedVariables false

theorem ownT : ownKnob Try.prog.godebug = none := by kernel_rfl
theorem laidT : laidOutB Try.prog = true := by kernel_rfl

set_option maxHeartbeats 800000 in
set_option maxRecDepth 100000 in
theorem blockTornLifted (os : Os) (started : os.Started) (H : Type) (enc : TypeId × Value → H) :
    ReturnsInHanded {} Try.checked os 3 .any (Rows.blockTornSpec.pre6 enc Try.prog Try.f3 Rows.blockTornRow.domain false) (Rows.blockTornSpec.post enc Try.prog Try.f3 false true false false) := by
  refine returnsInHanded_of_change (C := Try.checked) ownT started (by kernel_rfl) Try.func3
    (ChangeSpec.witness6 (enc := enc) (C := Try.checked) false ⟨#[], #[.agg #[.slice none 0 0], .slice none 0 0, .int .i64 0, .int .i64 0], []⟩ 8 (by kernel_rfl) (by kernel_rfl) (by kernel_rfl) (by kernel_rfl)) ?_
  intro W base args ds gs before hval0 hW hcnd _
  have hval : ∀ (j : Nat) t v, Try.f3.params[j]? = some t → args[j]? = some v → Value.okWide Try.prog W .any base t v := hval0
  have hW' := hW
  obtain ⟨p, q, hA0, hV, rfl, hfz, hnd⟩ := hW
  have hA : DataW.TrodAll enc Try.prog W 0 (fun _ => true) true Try.f3.params.toList args.toList ds p := hA0
  rw [Try.params3] at hA hval
  obtain ⟨v0, vs0, d0, ds0, p0, q0, hargs, rfl, rfl, h0, r0⟩ := trodAll_cons hA
  obtain ⟨v1, vs1, d1, ds1, p1, q1, rfl, rfl, rfl, h1, r1⟩ := trodAll_cons r0
  obtain ⟨v2, vs2, d2, ds2, p2, q2, rfl, rfl, rfl, h2, r2⟩ := trodAll_cons r1
  obtain ⟨v3, vs3, d3, ds3, p3, q3, rfl, rfl, rfl, h3, r3⟩ := trodAll_cons r2
  obtain ⟨rfl, rfl, rfl⟩ := trodAll_nil r3
  obtain rfl : args = #[v0, v1, v2, v3] := by cases args; simp_all
  obtain ⟨rfl, rfl⟩ := trodVars_none hV
  have k0 := h0
  have lt0 : ∀ x ∈ p0, x.block < W.heap.size := by obtain ⟨m, hm⟩ := k0; exact DataW.trod_lt m _ _ _ hm
  obtain ⟨fuel0, hf0⟩ := h0
  obtain ⟨cs0, rfl, hsz0, hcs0⟩ := open_scal Try.underlying24 (by kernel_rfl) (by kernel_rfl) (hval 0 24 v0 rfl rfl) hf0
  obtain ⟨c0_0, rfl⟩ : ∃ b0, cs0 = #[b0] := by
    exact arr1 hsz0
  obtain ⟨n0_0, y0_0, hy0_0⟩ := hcs0 0 _ _ rfl rfl
  obtain ⟨u0_0, xs0_0, e0_0, o0_0, w0_0, -⟩ := rep_slice (c := 0) (by decide) Try.underlying22 (by kernel_rfl) (cells_u8 Try.underlying5) hy0_0
  obtain rfl : c0_0 = u0_0 := by simpa using e0_0
  have k1 := h1
  have lt1 : ∀ x ∈ p1, x.block < W.heap.size := by obtain ⟨m, hm⟩ := k1; exact DataW.trod_lt m _ _ _ hm
  obtain ⟨xs1, w1, z1⟩ : ∃ xs : List (ty 9), Rep W (· < W.heap.size) noIds v1 (.sl 9 xs) ∧ DSz ZPut d1 xs := by
    obtain ⟨fuel, hf⟩ := h1
    exact rep_in (c := 9) (by decide) Try.underlying25 (by kernel_rfl) (cells_put Try.underlying28 (by kernel_rfl) rfl Try.underlying3 Try.underlying22 Try.underlying5 (by kernel_rfl) (by kernel_rfl) (by kernel_rfl)) (hval 1 25 v1 rfl rfl) hf
  obtain ⟨a2, rfl, rfl, rfl, w2⟩ := open_int Try.underlying3 (hval 2 3 v2 rfl rfl) h2
  obtain ⟨a3, rfl, rfl, rfl, w3⟩ := open_int Try.underlying3 (hval 3 3 v3 rfl rfl) h3
  clear hA0 hval0
  have hk2 : kwf .i64 a2 := by simpa [Lit.wf, kwf] using w2
  have hk3 : kwf .i64 a3 := by simpa [Lit.wf, kwf] using w3
  refine (calls_of_holds blockTorn_ok Try.call3 (w := W) (vals := #[.agg #[c0_0], v1, .int .i64 a2, .int .i64 a3]) (args := [.agg [.sl 0 xs0_0], .sl 9 xs1, .int .i64 a2, .int .i64 a3]) rfl (fun j v hj => ?_) ⟨hk2, hk3, rfl⟩).mono fun e W' ⟨he, bel⟩ => ?_
  · rcases j with _ | _ | _ | _ | j
    · simp at hj; subst hj; refine .agg rfl (fun j v h => ?_) (fun j v h => ?_) <;> rcases j with _ | j <;> simp at h <;> subst h <;> first | rfl | exact .bool | exact .int (by assumption) | assumption
    · simp at hj; subst hj; exact w1
    · simp at hj; subst hj; exact .int hk2
    · simp at hj; subst hj; exact .int hk3
    · simp at hj
  subst he
  exact ⟨_, rfl, _, _, _, [], _, [], hW', trodAll_mk1 (shut_bool Try.underlying4 _), (trodAll_cons_mk (Below.trod laidT (by kernel_rfl) (of_decide_eq_true (by kernel_rfl)) k0 bel lt0) (trodAll_cons_mk (Below.trod laidT (by kernel_rfl) (of_decide_eq_true (by kernel_rfl)) k1 bel lt1) (trodAll_cons_mk (shut_int Try.underlying3 w2) (trodAll_cons_mk (shut_int Try.underlying3 w3) trodAll_mk0)))), rfl, bel.frame _, fun h => by cases h⟩

theorem blockTorn_said : Rows.BlockTornSaid :=
  OpenClaim.holds_of_wide 3 Try.f3 rfl rfl rfl rfl rfl rfl rfl ⟨rfl, rfl, rfl, rfl, rfl⟩ rfl rfl rfl rfl rfl (by kernel_rfl) Try.func3 (by kernel_rfl)
    (of_decide_eq_true (by kernel_rfl)) (by unfold Func.isWrapper; first | (rw [if_pos (by decide +kernel)]; kernel_rfl) | (rw [if_neg (by decide +kernel)]; exact ⟨rfl, rfl⟩))
    (fun os started H enc _ => blockTornLifted os started H enc)
#print axioms blockTorn_said
end Go.Proofs.Ytiekaipompepdaa

namespace Go.Proofs.Ytiekaipompepdaa
open Go.ChangeShapes Go.WideShapes Go.ChangeAt Go.RowKit Go.Eng
set_option linter.unusedVariables false

theorem ownP : ownKnob Try.prog.godebug = none := by kernel_rfl
theorem laidP : laidOutB Try.prog = true := by kernel_rfl

set_option maxHeartbeats 800000 in
set_option maxRecDepth 100000 in
theorem blockPiecesLifted (os : Os) (started : os.Started) (H : Type) (enc : TypeId × Value → H) :
    ReturnsInHanded {} Try.checked os 5 .any (Rows.blockPiecesSpec.pre6 enc Try.prog Try.f5 Rows.blockPiecesRow.domain false) (Rows.blockPiecesSpec.post enc Try.prog Try.f5 false true false false) := by
  refine returnsInHanded_of_change (C := Try.checked) ownP started (by kernel_rfl) Try.func5
    (ChangeSpec.witness6 (enc := enc) (C := Try.checked) false ⟨#[], #[.agg #[.slice none 0 0], .slice none 0 0, .int .i64 0], []⟩ 8 (by kernel_rfl) (by kernel_rfl) (by kernel_rfl) (by kernel_rfl)) ?_
  intro W base args ds gs before hval0 hW hcnd _
  have hval : ∀ (j : Nat) t v, Try.f5.params[j]? = some t → args[j]? = some v → Value.okWide Try.prog W .any base t v := hval0
  have hW' := hW
  obtain ⟨p, q, hA0, hV, rfl, hfz, hnd⟩ := hW
  have hA : DataW.TrodAll enc Try.prog W 0 (fun _ => true) true Try.f5.params.toList args.toList ds p := hA0
  rw [Try.params5] at hA hval
  obtain ⟨v0, vs0, d0, ds0, p0, q0, hargs, rfl, rfl, h0, r0⟩ := trodAll_cons hA
  obtain ⟨v1, vs1, d1, ds1, p1, q1, rfl, rfl, rfl, h1, r1⟩ := trodAll_cons r0
  obtain ⟨v2, vs2, d2, ds2, p2, q2, rfl, rfl, rfl, h2, r2⟩ := trodAll_cons r1
  obtain ⟨rfl, rfl, rfl⟩ := trodAll_nil r2
  obtain rfl : args = #[v0, v1, v2] := by cases args; simp_all
  obtain ⟨rfl, rfl⟩ := trodVars_none hV
  have k0 := h0
  have lt0 : ∀ x ∈ p0, x.block < W.heap.size := by obtain ⟨m, hm⟩ := k0; exact DataW.trod_lt m _ _ _ hm
  obtain ⟨fuel0, hf0⟩ := h0
  obtain ⟨cs0, rfl, hsz0, hcs0⟩ := open_scal Try.underlying24 (by kernel_rfl) (by kernel_rfl) (hval 0 24 v0 rfl rfl) hf0
  obtain ⟨c0_0, rfl⟩ : ∃ b0, cs0 = #[b0] := by
    exact arr1 hsz0
  obtain ⟨n0_0, y0_0, hy0_0⟩ := hcs0 0 _ _ rfl rfl
  obtain ⟨u0_0, xs0_0, e0_0, o0_0, w0_0, -⟩ := rep_slice (c := 0) (by decide) Try.underlying22 (by kernel_rfl) (cells_u8 Try.underlying5) hy0_0
  obtain rfl : c0_0 = u0_0 := by simpa using e0_0
  have k1 := h1
  have lt1 : ∀ x ∈ p1, x.block < W.heap.size := by obtain ⟨m, hm⟩ := k1; exact DataW.trod_lt m _ _ _ hm
  obtain ⟨xs1, w1, z1⟩ : ∃ xs : List (ty 9), Rep W (· < W.heap.size) noIds v1 (.sl 9 xs) ∧ DSz ZPut d1 xs := by
    obtain ⟨fuel, hf⟩ := h1
    exact rep_in (c := 9) (by decide) Try.underlying25 (by kernel_rfl) (cells_put Try.underlying28 (by kernel_rfl) rfl Try.underlying3 Try.underlying22 Try.underlying5 (by kernel_rfl) (by kernel_rfl) (by kernel_rfl)) (hval 1 25 v1 rfl rfl) hf
  obtain ⟨a2, rfl, rfl, rfl, w2⟩ := open_int Try.underlying3 (hval 2 3 v2 rfl rfl) h2
  clear hA0 hval0
  have hk2 : kwf .i64 a2 := by simpa [Lit.wf, kwf] using w2
  refine (calls_of_holds blockPieces_ok Try.call5 (w := W) (vals := #[.agg #[c0_0], v1, .int .i64 a2]) (args := [.agg [.sl 0 xs0_0], .sl 9 xs1, .int .i64 a2]) rfl (fun j v hj => ?_) ⟨hk2, rfl⟩).mono fun e W' ⟨he, bel⟩ => ?_
  · rcases j with _ | _ | _ | j
    · simp at hj; subst hj; refine .agg rfl (fun j v h => ?_) (fun j v h => ?_) <;> rcases j with _ | j <;> simp at h <;> subst h <;> first | rfl | exact .bool | exact .int (by assumption) | assumption
    · simp at hj; subst hj; exact w1
    · simp at hj; subst hj; exact .int hk2
    · simp at hj
  subst he
  exact ⟨_, rfl, _, _, _, [], _, [], hW', trodAll_mk1 (shut_bool Try.underlying4 _), (trodAll_cons_mk (Below.trod laidP (by kernel_rfl) (of_decide_eq_true (by kernel_rfl)) k0 bel lt0) (trodAll_cons_mk (Below.trod laidP (by kernel_rfl) (of_decide_eq_true (by kernel_rfl)) k1 bel lt1) (trodAll_cons_mk (shut_int Try.underlying3 w2) trodAll_mk0))), rfl, bel.frame _, fun h => by cases h⟩

theorem blockPieces_said : Rows.BlockPiecesSaid :=
  OpenClaim.holds_of_wide 5 Try.f5 rfl rfl rfl rfl rfl rfl rfl ⟨rfl, rfl, rfl, rfl, rfl⟩ rfl rfl rfl rfl rfl (by kernel_rfl) Try.func5 (by kernel_rfl)
    (of_decide_eq_true (by kernel_rfl)) (by unfold Func.isWrapper; first | (rw [if_pos (by decide +kernel)]; kernel_rfl) | (rw [if_neg (by decide +kernel)]; exact ⟨rfl, rfl⟩))
    (fun os started H enc _ => blockPiecesLifted os started H enc)
#print axioms blockPieces_said
end Go.Proofs.Ytiekaipompepdaa


