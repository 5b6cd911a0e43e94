/- BlockDoes: devices are made, read and written, whole and torn, as the document says; they stay, and what is answered is new memory. Any device, writes and numbers. No conditions beyond the row's own. -/
import Derived.Test.YtiekaipompepdaaBkM
import Derived.Test.YtiekaipompepdaaEngR
import Derived.Test.YtiekaipompepdaaRows
namespace Go.Proofs.Ytiekaipompepdaa
open Go Go.Eng Go.Bk Go.Proofs
set_option linter.unusedVariables false
set_option maxHeartbeats 2000000 in
theorem blockDoes_vc (d : List UInt8) (l : List Put) (w : Int) (w0 : (-9223372036854775808 : Int) ≤ w) (w1 : w ≤ (9223372036854775807 : Int)) (t : Int) (t0 : (-9223372036854775808 : Int) ≤ t) (t1 : t ≤ (9223372036854775807 : Int)) (n : Int) (n0 : (-9223372036854775808 : Int) ≤ n) (n1 : n ≤ (9223372036854775807 : Int)) (b : List UInt8) (k : AV → List (Option Blk) → List Blk → Prop) (hk : k (AV.bool true) [] []) :
  ∀ (n1 : Int),
  (n1 = (↑d.length : Int)) →
  ((-9223372036854775808 : Int) ≤ n1 ∧ n1 ≤ (9223372036854775807 : Int)) →
  ∀ (n4 : Int),
  (n4 = (↑l.length : Int)) →
  ∀ (n6 : Int),
  (n6 = (↑b.length : Int)) →
  br (bif bif decide (n1 > (10000 : Int)) then true else decide (n4 > (100 : Int)) then true else decide (n6 > (10000 : Int)))
   ((k (AV.bool true) [] []))
   ((
     ∃ (v : Nat),
     (l = l) ∧
     (w = w) ∧
     (t = t) ∧
     (n = n) ∧
     (b = b) ∧
     ((0 : Int) = (↑v : Int)) ∧
     (d = d) ∧
     (v ≤ l.length) ∧
     (d.length ≤ (10000 : Nat)) ∧
     (l.length ≤ (100 : Nat)) ∧
     (b.length ≤ (10000 : Nat))) ∧
    ∀ (v_8 : Nat),
    (v_8 ≤ l.length ∧ d.length ≤ (10000 : Nat) ∧ l.length ≤ (100 : Nat) ∧ b.length ≤ (10000 : Nat)) →
    ∀ (n10 : Int),
    (n10 = (↑l.length : Int)) →
    ((-9223372036854775808 : Int) ≤ n10 ∧ n10 ≤ (9223372036854775807 : Int)) →
    br (decide ((↑v_8 : Int) < n10))
     (((0 : Int) ≤ (↑v_8 : Int)) ∧
      ((↑v_8 : Int) < (↑l.length : Int)) ∧
      ∀ (n13 : Int),
      (n13 = (↑(l.getD (↑v_8 : Int).toNat (dflt (9 : Nat))).data.length : Int)) →
      ((-9223372036854775808 : Int) ≤ n13 ∧ n13 ≤ (9223372036854775807 : Int)) →
      br (decide (n13 > (10000 : Int)))
       ((k (AV.bool true) [] []))
       (∀ (n16 : Int),
        (n16 = IntKind.i64.wrap ((↑v_8 : Int) + (1 : Int))) →
        ((-9223372036854775808 : Int) ≤ n16 ∧ n16 ≤ (9223372036854775807 : Int)) →
        ∃ (v' : Nat),
        (l = l) ∧
        (w = w) ∧
        (t = t) ∧
        (n = n) ∧
        (b = b) ∧
        (n16 = (↑v' : Int)) ∧
        (d = d) ∧
        (
         (v' ≤ l.length) ∧
         (d.length ≤ (10000 : Nat)) ∧
         (l.length ≤ (100 : Nat)) ∧
         (b.length ≤ (10000 : Nat))) ∧
        (l.length - v' < l.length - v_8)))
     ((d.length ≤ (1000000 : Nat)) ∧
      ∀ (ys_19 : List UInt8),
      ∀ (n_20 : Nat),
      (ys_19 = d) →
      (ys_19.length = n_20) →
      (b.length * (1 : Nat) ≤ (140737488355328 : Nat)) ∧
      ∀ (z23 : List UInt8),
      (z23 = b) →
      ∀ (e_25 : Int),
      ∀ (ys_26 : List UInt8),
      ∀ (q_27 : Nat),
      (e_25 = newE n) →
      (ys_26 = newO n) →
      (ys_26.length = q_27) →
      ∀ (e_31 : Int),
      ∀ (ys_32 : List UInt8),
      ∀ (q_33 : Nat),
      (e_31 = newE n) →
      (ys_32 = newO n) →
      (ys_32.length = q_33) →
      ((List.take n_20 (List.drop (0 : Nat) ys_19)).length ≤ (1000000 : Nat)) ∧
      ∀ (e_37 : Int),
      ∀ (ys_38 : List UInt8),
      ∀ (q_39 : Nat),
      (e_37 = askE (List.take n_20 (List.drop (0 : Nat) ys_19)) n) →
      (ys_38 = rdO (List.take n_20 (List.drop (0 : Nat) ys_19)) n) →
      (ys_38.length = q_39) →
      (d.length ≤ (1000000 : Nat)) ∧
      ∀ (e_43 : Int),
      ∀ (ys_44 : List UInt8),
      ∀ (q_45 : Nat),
      (e_43 = askE d n) →
      (ys_44 = rdO d n) →
      (ys_44.length = q_45) →
      ((List.take n_20 (List.drop (0 : Nat) ys_19)).length ≤ (1000000 : Nat)) ∧
      ∀ (e_49 : Int),
      ∀ (ys_50 : List UInt8),
      ∀ (q_51 : Nat),
      (e_49 = doE (List.take n_20 (List.drop (0 : Nat) ys_19)) [{ n := n, data := List.take b.length (List.drop (0 : Nat) z23) : Put }] (1 : Int) (0 : Int)) →
      (ys_50 = doO (List.take n_20 (List.drop (0 : Nat) ys_19)) [{ n := n, data := List.take b.length (List.drop (0 : Nat) z23) : Put }] (1 : Int) (0 : Int)) →
      (ys_50.length = q_51) →
      (d.length ≤ (1000000 : Nat)) ∧
      ∀ (e_55 : Int),
      ∀ (ys_56 : List UInt8),
      ∀ (q_57 : Nat),
      (e_55 = doE d [{ n := n, data := b : Put }] (1 : Int) (0 : Int)) →
      (ys_56 = doO d [{ n := n, data := b : Put }] (1 : Int) (0 : Int)) →
      (ys_56.length = q_57) →
      (
       ((List.take n_20 (List.drop (0 : Nat) ys_19)).length ≤ (1000000 : Nat)) ∧
       (l.length ≤ (1000000 : Nat))) ∧
      ∀ (e_61 : Int),
      ∀ (ys_62 : List UInt8),
      ∀ (n_63 : Nat),
      (e_61 = doE (List.take n_20 (List.drop (0 : Nat) ys_19)) l w t) →
      (ys_62 = doO (List.take n_20 (List.drop (0 : Nat) ys_19)) l w t) →
      (ys_62.length = n_63) →
      (
       (d.length ≤ (1000000 : Nat)) ∧
       (l.length ≤ (1000000 : Nat))) ∧
      ∀ (e_67 : Int),
      ∀ (ys_68 : List UInt8),
      ∀ (n_69 : Nat),
      (e_67 = doE d l w t) →
      (ys_68 = doO d l w t) →
      (ys_68.length = n_69) →
      ∀ (e_73 : Int),
      ∀ (m_74 : Int),
      (e_73 = chkE (List.take n_20 (List.drop (0 : Nat) ys_19))) →
      (m_74 = if dOk (List.take n_20 (List.drop (0 : Nat) ys_19)).length then (↑((List.take n_20 (List.drop (0 : Nat) ys_19)).length / (64 : Nat)) : Int) else (0 : Int)) →
      ∀ (e_77 : Int),
      (e_77 = chkE d) →
      ∀ (r_79 : Bool),
      (r_79 = true ↔ List.take q_27 (List.drop (0 : Nat) ys_26) = List.take q_33 (List.drop (0 : Nat) ys_32)) →
      br (bif bif bif !r_79 then true else e_25 != e_31 then true else !{ data := (List.take q_39 (List.drop (0 : Nat) ys_38)).toArray : ByteArray }.data.toList == { data := (List.take q_45 (List.drop (0 : Nat) ys_44)).toArray : ByteArray }.data.toList then true else e_37 != e_43)
       ((true = true) ∧
        (true = true) ∧
        (true = true) ∧
        (true = true) ∧
        (true = true) ∧
        (k (AV.bool false) [] []))
       (∀ (r_81 : Bool),
        (r_81 = true ↔ List.take q_51 (List.drop (0 : Nat) ys_50) = List.take q_57 (List.drop (0 : Nat) ys_56)) →
        br (bif bif false then true else !r_81 then true else e_49 != e_55)
         ((true = true) ∧
          (true = true) ∧
          (true = true) ∧
          (true = true) ∧
          (k (AV.bool false) [] []))
         (∀ (r_83 : Bool),
          (r_83 = true ↔ List.take n_63 (List.drop (0 : Nat) ys_62) = List.take n_69 (List.drop (0 : Nat) ys_68)) →
          br (bif bif bif false then true else !r_83 then true else e_61 != e_67 then true else e_73 != e_77)
           ((true = true) ∧
            (true = true) ∧
            (true = true) ∧
            (k (AV.bool false) [] []))
           (∀ (e_85 : Int),
            (e_85 = chkE (List.take n_20 (List.drop (0 : Nat) ys_19))) →
            br (bif false then true else e_85 != e_77)
             ((true = true) ∧
              (true = true) ∧
              (k (AV.bool false) [] []))
             (br (e_77 == (0 : Int))
               (∀ (m_87 : Int),
                (m_87 = (↑(d.length / (64 : Nat)) : Int)) →
                br (bif bif false then true else bif true then m_74 != m_87 else false then true else bif e_77 != (0 : Int) then m_74 != (0 : Int) else false)
                 ((true = true) ∧
                  (k (AV.bool false) [] []))
                 (∀ (r_89 : Bool),
                  (r_89 = true ↔ d = List.take q_51 (List.drop (0 : Nat) ys_50)) →
                  ∀ (r_91 : Bool),
                  (r_91 = true ↔ d = List.take q_51 (List.drop (0 : Nat) ys_50)) →
                  br (bif false then true else !r_89 == r_91)
                   ((k (AV.bool false) [] []))
                   ((
                     ∃ (v : Nat × Nat × List UInt8 × Nat × List UInt8),
                     (b = b) ∧
                     ((0 : Nat) = (0 : Nat)) ∧
                     (b.length = b.length) ∧
                     ((0 : Nat) = (0 : Nat)) ∧
                     (q_39 = v.snd.fst) ∧
                     ((0 : Int) = (↑v.fst : Int)) ∧
                     (d = d) ∧
                     ((0 : Nat) = (0 : Nat)) ∧
                     (n_20 = d.length) ∧
                     (ys_19 = d) ∧
                     (z23 = b) ∧
                     (ys_38 = v.snd.snd.fst) ∧
                     ((0 : Nat) = (0 : Nat)) ∧
                     (n_63 = v.snd.snd.snd.fst) ∧
                     (ys_62 = v.snd.snd.snd.snd) ∧
                     (v.fst ≤ v.snd.fst) ∧
                     (v.snd.snd.fst.length = v.snd.fst) ∧
                     (v.snd.snd.snd.snd.length = v.snd.snd.snd.fst)) ∧
                    ∀ (v_93 : Nat × Nat × List UInt8 × Nat × List UInt8),
                    (v_93.fst ≤ v_93.snd.fst ∧ v_93.snd.snd.fst.length = v_93.snd.fst ∧ v_93.snd.snd.snd.snd.length = v_93.snd.snd.snd.fst) →
                    ∀ (n95 : Int),
                    (n95 = (↑v_93.snd.fst : Int)) →
                    ((-9223372036854775808 : Int) ≤ n95 ∧ n95 ≤ (9223372036854775807 : Int)) →
                    br (decide ((↑v_93.fst : Int) < n95))
                     (((0 : Int) ≤ (↑v_93.fst : Int)) ∧
                      ((↑v_93.fst : Int) < (↑v_93.snd.fst : Int)) ∧
                      ((0 : Nat) + (↑v_93.fst : Int).toNat < v_93.snd.snd.fst.length) ∧
                      ∀ (n98 : Int),
                      (n98 = (↑(v_93.snd.snd.fst.getD ((0 : Nat) + (↑v_93.fst : Int).toNat) (0 : UInt8)).toNat : Int)) →
                      ((0 : Int) ≤ n98 ∧ n98 ≤ (255 : Int)) →
                      ∀ (n101 : Int),
                      (n101 = IntKind.u8.wrap (n98 + (1 : Int))) →
                      ((0 : Int) ≤ n101 ∧ n101 ≤ (255 : Int)) →
                      ((0 : Int) ≤ (↑v_93.fst : Int)) ∧
                      ((↑v_93.fst : Int) < (↑v_93.snd.fst : Int)) ∧
                      ((0 : Nat) + (↑v_93.fst : Int).toNat < v_93.snd.snd.fst.length) ∧
                      ∀ (z104 : List UInt8),
                      (z104 = v_93.snd.snd.fst.set ((0 : Nat) + (↑v_93.fst : Int).toNat) (UInt8.ofNat n101.toNat)) →
                      ∀ (n106 : Int),
                      (n106 = IntKind.i64.wrap ((↑v_93.fst : Int) + (1 : Int))) →
                      ((-9223372036854775808 : Int) ≤ n106 ∧ n106 ≤ (9223372036854775807 : Int)) →
                      ∃ (v' : Nat × Nat × List UInt8 × Nat × List UInt8),
                      (b = b) ∧
                      ((0 : Nat) = (0 : Nat)) ∧
                      (b.length = b.length) ∧
                      ((0 : Nat) = (0 : Nat)) ∧
                      (v_93.snd.fst = v'.snd.fst) ∧
                      (n106 = (↑v'.fst : Int)) ∧
                      (d = d) ∧
                      ((0 : Nat) = (0 : Nat)) ∧
                      (d.length = d.length) ∧
                      (d = d) ∧
                      (b = b) ∧
                      (z104 = v'.snd.snd.fst) ∧
                      ((0 : Nat) = (0 : Nat)) ∧
                      (v_93.snd.snd.snd.fst = v'.snd.snd.snd.fst) ∧
                      (v_93.snd.snd.snd.snd = v'.snd.snd.snd.snd) ∧
                      (
                       (v'.fst ≤ v'.snd.fst) ∧
                       (v'.snd.snd.fst.length = v'.snd.fst) ∧
                       (v'.snd.snd.snd.snd.length = v'.snd.snd.snd.fst)) ∧
                      (v'.snd.fst - v'.fst < v_93.snd.fst - v_93.fst))
                     ((
                       ∃ (v : Nat × Nat × List UInt8),
                       (b = b) ∧
                       ((0 : Nat) = (0 : Nat)) ∧
                       (b.length = b.length) ∧
                       ((0 : Int) = (↑v.fst : Int)) ∧
                       (d = d) ∧
                       ((0 : Nat) = (0 : Nat)) ∧
                       (d.length = d.length) ∧
                       (d = d) ∧
                       (b = b) ∧
                       ((0 : Nat) = (0 : Nat)) ∧
                       (v_93.snd.snd.snd.fst = v.snd.fst) ∧
                       (v_93.snd.snd.snd.snd = v.snd.snd) ∧
                       (v.fst ≤ v.snd.fst) ∧
                       (v.snd.snd.length = v.snd.fst)) ∧
                      ∀ (v_109 : Nat × Nat × List UInt8),
                      (v_109.fst ≤ v_109.snd.fst ∧ v_109.snd.snd.length = v_109.snd.fst) →
                      ∀ (n111 : Int),
                      (n111 = (↑v_109.snd.fst : Int)) →
                      ((-9223372036854775808 : Int) ≤ n111 ∧ n111 ≤ (9223372036854775807 : Int)) →
                      br (decide ((↑v_109.fst : Int) < n111))
                       (((0 : Int) ≤ (↑v_109.fst : Int)) ∧
                        ((↑v_109.fst : Int) < (↑v_109.snd.fst : Int)) ∧
                        ((0 : Nat) + (↑v_109.fst : Int).toNat < v_109.snd.snd.length) ∧
                        ∀ (n114 : Int),
                        (n114 = (↑(v_109.snd.snd.getD ((0 : Nat) + (↑v_109.fst : Int).toNat) (0 : UInt8)).toNat : Int)) →
                        ((0 : Int) ≤ n114 ∧ n114 ≤ (255 : Int)) →
                        ∀ (n117 : Int),
                        (n117 = IntKind.u8.wrap (n114 + (1 : Int))) →
                        ((0 : Int) ≤ n117 ∧ n117 ≤ (255 : Int)) →
                        ((0 : Int) ≤ (↑v_109.fst : Int)) ∧
                        ((↑v_109.fst : Int) < (↑v_109.snd.fst : Int)) ∧
                        ((0 : Nat) + (↑v_109.fst : Int).toNat < v_109.snd.snd.length) ∧
                        ∀ (z120 : List UInt8),
                        (z120 = v_109.snd.snd.set ((0 : Nat) + (↑v_109.fst : Int).toNat) (UInt8.ofNat n117.toNat)) →
                        ∀ (n122 : Int),
                        (n122 = IntKind.i64.wrap ((↑v_109.fst : Int) + (1 : Int))) →
                        ((-9223372036854775808 : Int) ≤ n122 ∧ n122 ≤ (9223372036854775807 : Int)) →
                        ∃ (v' : Nat × Nat × List UInt8),
                        (b = b) ∧
                        ((0 : Nat) = (0 : Nat)) ∧
                        (b.length = b.length) ∧
                        (n122 = (↑v'.fst : Int)) ∧
                        (d = d) ∧
                        ((0 : Nat) = (0 : Nat)) ∧
                        (d.length = d.length) ∧
                        (d = d) ∧
                        (b = b) ∧
                        ((0 : Nat) = (0 : Nat)) ∧
                        (v_109.snd.fst = v'.snd.fst) ∧
                        (z120 = v'.snd.snd) ∧
                        (
                         (v'.fst ≤ v'.snd.fst) ∧
                         (v'.snd.snd.length = v'.snd.fst)) ∧
                        (v'.snd.fst - v'.fst < v_109.snd.fst - v_109.fst))
                       (∀ (r_125 : Bool),
                        (r_125 = true ↔ List.take d.length (List.drop (0 : Nat) d) = d) →
                        (k (AV.bool (bif r_125 then { data := (List.take b.length (List.drop (0 : Nat) b)).toArray : ByteArray }.data.toList == { data := b.toArray : ByteArray }.data.toList else false)) [] []))))))
               ((
                 (false = false) →
                 (false = false)) ∧
                br (bif bif false then true else false then true else bif e_77 != (0 : Int) then m_74 != (0 : Int) else false)
                 ((true = true) ∧
                  (k (AV.bool false) [] []))
                 (∀ (r_127 : Bool),
                  (r_127 = true ↔ d = List.take q_51 (List.drop (0 : Nat) ys_50)) →
                  ∀ (r_129 : Bool),
                  (r_129 = true ↔ d = List.take q_51 (List.drop (0 : Nat) ys_50)) →
                  br (bif false then true else !r_127 == r_129)
                   ((k (AV.bool false) [] []))
                   ((
                     ∃ (v : Nat × Nat × List UInt8 × Nat × List UInt8),
                     (b = b) ∧
                     ((0 : Nat) = (0 : Nat)) ∧
                     (b.length = b.length) ∧
                     ((0 : Nat) = (0 : Nat)) ∧
                     (q_39 = v.snd.fst) ∧
                     ((0 : Int) = (↑v.fst : Int)) ∧
                     (d = d) ∧
                     ((0 : Nat) = (0 : Nat)) ∧
                     (n_20 = d.length) ∧
                     (ys_19 = d) ∧
                     (z23 = b) ∧
                     (ys_38 = v.snd.snd.fst) ∧
                     ((0 : Nat) = (0 : Nat)) ∧
                     (n_63 = v.snd.snd.snd.fst) ∧
                     (ys_62 = v.snd.snd.snd.snd) ∧
                     (v.fst ≤ v.snd.fst) ∧
                     (v.snd.snd.fst.length = v.snd.fst) ∧
                     (v.snd.snd.snd.snd.length = v.snd.snd.snd.fst)) ∧
                    ∀ (v_131 : Nat × Nat × List UInt8 × Nat × List UInt8),
                    (v_131.fst ≤ v_131.snd.fst ∧ v_131.snd.snd.fst.length = v_131.snd.fst ∧ v_131.snd.snd.snd.snd.length = v_131.snd.snd.snd.fst) →
                    ∀ (n133 : Int),
                    (n133 = (↑v_131.snd.fst : Int)) →
                    ((-9223372036854775808 : Int) ≤ n133 ∧ n133 ≤ (9223372036854775807 : Int)) →
                    br (decide ((↑v_131.fst : Int) < n133))
                     (((0 : Int) ≤ (↑v_131.fst : Int)) ∧
                      ((↑v_131.fst : Int) < (↑v_131.snd.fst : Int)) ∧
                      ((0 : Nat) + (↑v_131.fst : Int).toNat < v_131.snd.snd.fst.length) ∧
                      ∀ (n136 : Int),
                      (n136 = (↑(v_131.snd.snd.fst.getD ((0 : Nat) + (↑v_131.fst : Int).toNat) (0 : UInt8)).toNat : Int)) →
                      ((0 : Int) ≤ n136 ∧ n136 ≤ (255 : Int)) →
                      ∀ (n139 : Int),
                      (n139 = IntKind.u8.wrap (n136 + (1 : Int))) →
                      ((0 : Int) ≤ n139 ∧ n139 ≤ (255 : Int)) →
                      ((0 : Int) ≤ (↑v_131.fst : Int)) ∧
                      ((↑v_131.fst : Int) < (↑v_131.snd.fst : Int)) ∧
                      ((0 : Nat) + (↑v_131.fst : Int).toNat < v_131.snd.snd.fst.length) ∧
                      ∀ (z142 : List UInt8),
                      (z142 = v_131.snd.snd.fst.set ((0 : Nat) + (↑v_131.fst : Int).toNat) (UInt8.ofNat n139.toNat)) →
                      ∀ (n144 : Int),
                      (n144 = IntKind.i64.wrap ((↑v_131.fst : Int) + (1 : Int))) →
                      ((-9223372036854775808 : Int) ≤ n144 ∧ n144 ≤ (9223372036854775807 : Int)) →
                      ∃ (v' : Nat × Nat × List UInt8 × Nat × List UInt8),
                      (b = b) ∧
                      ((0 : Nat) = (0 : Nat)) ∧
                      (b.length = b.length) ∧
                      ((0 : Nat) = (0 : Nat)) ∧
                      (v_131.snd.fst = v'.snd.fst) ∧
                      (n144 = (↑v'.fst : Int)) ∧
                      (d = d) ∧
                      ((0 : Nat) = (0 : Nat)) ∧
                      (d.length = d.length) ∧
                      (d = d) ∧
                      (b = b) ∧
                      (z142 = v'.snd.snd.fst) ∧
                      ((0 : Nat) = (0 : Nat)) ∧
                      (v_131.snd.snd.snd.fst = v'.snd.snd.snd.fst) ∧
                      (v_131.snd.snd.snd.snd = v'.snd.snd.snd.snd) ∧
                      (
                       (v'.fst ≤ v'.snd.fst) ∧
                       (v'.snd.snd.fst.length = v'.snd.fst) ∧
                       (v'.snd.snd.snd.snd.length = v'.snd.snd.snd.fst)) ∧
                      (v'.snd.fst - v'.fst < v_131.snd.fst - v_131.fst))
                     ((
                       ∃ (v : Nat × Nat × List UInt8),
                       (b = b) ∧
                       ((0 : Nat) = (0 : Nat)) ∧
                       (b.length = b.length) ∧
                       ((0 : Int) = (↑v.fst : Int)) ∧
                       (d = d) ∧
                       ((0 : Nat) = (0 : Nat)) ∧
                       (d.length = d.length) ∧
                       (d = d) ∧
                       (b = b) ∧
                       ((0 : Nat) = (0 : Nat)) ∧
                       (v_131.snd.snd.snd.fst = v.snd.fst) ∧
                       (v_131.snd.snd.snd.snd = v.snd.snd) ∧
                       (v.fst ≤ v.snd.fst) ∧
                       (v.snd.snd.length = v.snd.fst)) ∧
                      ∀ (v_147 : Nat × Nat × List UInt8),
                      (v_147.fst ≤ v_147.snd.fst ∧ v_147.snd.snd.length = v_147.snd.fst) →
                      ∀ (n149 : Int),
                      (n149 = (↑v_147.snd.fst : Int)) →
                      ((-9223372036854775808 : Int) ≤ n149 ∧ n149 ≤ (9223372036854775807 : Int)) →
                      br (decide ((↑v_147.fst : Int) < n149))
                       (((0 : Int) ≤ (↑v_147.fst : Int)) ∧
                        ((↑v_147.fst : Int) < (↑v_147.snd.fst : Int)) ∧
                        ((0 : Nat) + (↑v_147.fst : Int).toNat < v_147.snd.snd.length) ∧
                        ∀ (n152 : Int),
                        (n152 = (↑(v_147.snd.snd.getD ((0 : Nat) + (↑v_147.fst : Int).toNat) (0 : UInt8)).toNat : Int)) →
                        ((0 : Int) ≤ n152 ∧ n152 ≤ (255 : Int)) →
                        ∀ (n155 : Int),
                        (n155 = IntKind.u8.wrap (n152 + (1 : Int))) →
                        ((0 : Int) ≤ n155 ∧ n155 ≤ (255 : Int)) →
                        ((0 : Int) ≤ (↑v_147.fst : Int)) ∧
                        ((↑v_147.fst : Int) < (↑v_147.snd.fst : Int)) ∧
                        ((0 : Nat) + (↑v_147.fst : Int).toNat < v_147.snd.snd.length) ∧
                        ∀ (z158 : List UInt8),
                        (z158 = v_147.snd.snd.set ((0 : Nat) + (↑v_147.fst : Int).toNat) (UInt8.ofNat n155.toNat)) →
                        ∀ (n160 : Int),
                        (n160 = IntKind.i64.wrap ((↑v_147.fst : Int) + (1 : Int))) →
                        ((-9223372036854775808 : Int) ≤ n160 ∧ n160 ≤ (9223372036854775807 : Int)) →
                        ∃ (v' : Nat × Nat × List UInt8),
                        (b = b) ∧
                        ((0 : Nat) = (0 : Nat)) ∧
                        (b.length = b.length) ∧
                        (n160 = (↑v'.fst : Int)) ∧
                        (d = d) ∧
                        ((0 : Nat) = (0 : Nat)) ∧
                        (d.length = d.length) ∧
                        (d = d) ∧
                        (b = b) ∧
                        ((0 : Nat) = (0 : Nat)) ∧
                        (v_147.snd.fst = v'.snd.fst) ∧
                        (z158 = v'.snd.snd) ∧
                        (
                         (v'.fst ≤ v'.snd.fst) ∧
                         (v'.snd.snd.length = v'.snd.fst)) ∧
                        (v'.snd.fst - v'.fst < v_147.snd.fst - v_147.fst))
                       (∀ (r_163 : Bool),
                        (r_163 = true ↔ List.take d.length (List.drop (0 : Nat) d) = d) →
                        (k (AV.bool (bif r_163 then { data := (List.take b.length (List.drop (0 : Nat) b)).toArray : ByteArray }.data.toList == { data := b.toArray : ByteArray }.data.toList else false)) [] [])))))))))))) := by
  intro n1
  intro q1 -- n1 = (↑d.length : Int)
  intro ⟨l1, u1⟩ -- (-9223372036854775808 : Int) ≤ n1 ∧ n1 ≤ (9223372036854775807 : Int)
  intro n4
  intro q4 -- n4 = (↑l.length : Int)
  intro n6
  intro q6 -- n6 = (↑b.length : Int)
  refine br_intro (fun c1 => ?_) (fun c1 => ?_) -- bif bif decide (n1 > (10000 : Int)) then true else decide (n4 > (100 : Int)) then true else decide (n6 > (10000 : Int))
  · -- yes
    simp at c1 -- ((10000 : Int) < n1 ∨ (100 : Int) < n4) ∨ (10000 : Int) < n6
    exact by exact hk -- k (AV.bool true) [] []
  · -- no
    simp at c1 -- (n1 ≤ (10000 : Int) ∧ n4 ≤ (100 : Int)) ∧ n6 ≤ (10000 : Int)
    refine ⟨?_, ?_⟩
    · -- left
      refine ⟨Int.toNat (0 : Int), ?_⟩
      refine ⟨by first | with_reducible rfl | rfl, ?_⟩ -- l = l
      refine ⟨by first | with_reducible rfl | rfl, ?_⟩ -- w = w
      refine ⟨by first | with_reducible rfl | rfl, ?_⟩ -- t = t
      refine ⟨by first | with_reducible rfl | rfl, ?_⟩ -- n = n
      refine ⟨by first | with_reducible rfl | rfl, ?_⟩ -- b = b
      refine ⟨by show (0 : Int) = (↑(Int.toNat (0 : Int)) : Int); omega, ?_⟩ -- (0 : Int) = (↑(Int.toNat (0 : Int)) : Int)
      refine ⟨by first | with_reducible rfl | rfl, ?_⟩ -- d = d
      refine ⟨by show Int.toNat (0 : Int) ≤ l.length; omega, ?_⟩ -- Int.toNat (0 : Int) ≤ l.length
      refine ⟨by show d.length ≤ (10000 : Nat); omega, ?_⟩ -- d.length ≤ (10000 : Nat)
      refine ⟨by show l.length ≤ (100 : Nat); omega, ?_⟩ -- l.length ≤ (100 : Nat)
      exact by show b.length ≤ (10000 : Nat); omega -- b.length ≤ (10000 : Nat)
    intro v_8
    intro h2 -- v_8 ≤ l.length ∧ d.length ≤ (10000 : Nat) ∧ l.length ≤ (100 : Nat) ∧ b.length ≤ (10000 : Nat)
    intro n10
    intro q10 -- n10 = (↑l.length : Int)
    intro ⟨l10, u10⟩ -- (-9223372036854775808 : Int) ≤ n10 ∧ n10 ≤ (9223372036854775807 : Int)
    refine brd (fun c3 => ?_) (fun c3 => ?_) -- decide ((↑v_8 : Int) < n10)
    · -- yes
      refine ⟨by first | omega | (dsimp only; omega), ?_⟩ -- (0 : Int) ≤ (↑v_8 : Int)
      refine ⟨by first | omega | (dsimp only; omega), ?_⟩ -- (↑v_8 : Int) < (↑l.length : Int)
      intro n13
      intro q13 -- n13 = (↑(l.getD (↑v_8 : Int).toNat (dflt (9 : Nat))).data.length : Int)
      intro ⟨l13, u13⟩ -- (-9223372036854775808 : Int) ≤ n13 ∧ n13 ≤ (9223372036854775807 : Int)
      refine brd (fun c4 => ?_) (fun c4 => ?_) -- decide (n13 > (10000 : Int))
      · -- yes
        exact by exact hk -- k (AV.bool true) [] []
      · -- no
        intro n16
        intro q16 -- n16 = IntKind.i64.wrap ((↑v_8 : Int) + (1 : Int))
        rw [IntKind.wrap_i64] at q16
        intro ⟨l16, u16⟩ -- (-9223372036854775808 : Int) ≤ n16 ∧ n16 ≤ (9223372036854775807 : Int)
        refine ⟨n16.toNat, ?_⟩
        refine ⟨by first | with_reducible rfl | rfl, ?_⟩ -- l = l
        refine ⟨by first | with_reducible rfl | rfl, ?_⟩ -- w = w
        refine ⟨by first | with_reducible rfl | rfl, ?_⟩ -- t = t
        refine ⟨by first | with_reducible rfl | rfl, ?_⟩ -- n = n
        refine ⟨by first | with_reducible rfl | rfl, ?_⟩ -- b = b
        refine ⟨by show n16 = (↑n16.toNat : Int); omega, ?_⟩ -- n16 = (↑n16.toNat : Int)
        refine ⟨by first | with_reducible rfl | rfl, ?_⟩ -- d = d
        refine ⟨?_, ?_⟩
        · -- left
          refine ⟨by show n16.toNat ≤ l.length; omega, ?_⟩ -- n16.toNat ≤ l.length
          refine ⟨by show d.length ≤ (10000 : Nat); omega, ?_⟩ -- d.length ≤ (10000 : Nat)
          refine ⟨by show l.length ≤ (100 : Nat); omega, ?_⟩ -- l.length ≤ (100 : Nat)
          exact by show b.length ≤ (10000 : Nat); omega -- b.length ≤ (10000 : Nat)
        exact by show l.length - n16.toNat < l.length - v_8; omega -- l.length - n16.toNat < l.length - v_8
    · -- no
      refine ⟨by first | omega | (dsimp only; omega), ?_⟩ -- d.length ≤ (1000000 : Nat)
      intro ys_19
      intro n_20
      intro h5 -- ys_19 = d
      intro h6 -- ys_19.length = n_20
      refine ⟨by first | omega | (dsimp only; omega), ?_⟩ -- b.length * (1 : Nat) ≤ (140737488355328 : Nat)
      intro z23
      intro qz23 -- z23 = b
      intro e_25
      intro ys_26
      intro q_27
      intro h7 -- e_25 = newE n
      intro h8 -- ys_26 = newO n
      intro h9 -- ys_26.length = q_27
      intro e_31
      intro ys_32
      intro q_33
      intro h10 -- e_31 = newE n
      intro h11 -- ys_32 = newO n
      intro h12 -- ys_32.length = q_33
      have h13 : (List.take n_20 (List.drop (0 : Nat) ys_19)).length ≤ (1000000 : Nat) := by
        have TD : List.take n_20 (List.drop 0 ys_19) = d := by rw [← h6, List.drop_zero, List.take_length, h5]
        rw [TD]
        omega
      refine ⟨h13, ?_⟩
      intro e_37
      intro ys_38
      intro q_39
      intro h14 -- e_37 = askE (List.take n_20 (List.drop (0 : Nat) ys_19)) n
      intro h15 -- ys_38 = rdO (List.take n_20 (List.drop (0 : Nat) ys_19)) n
      intro h16 -- ys_38.length = q_39
      refine ⟨by first | omega | (dsimp only; omega), ?_⟩ -- d.length ≤ (1000000 : Nat)
      intro e_43
      intro ys_44
      intro q_45
      intro h17 -- e_43 = askE d n
      intro h18 -- ys_44 = rdO d n
      intro h19 -- ys_44.length = q_45
      refine ⟨by assumption, ?_⟩ -- (List.take n_20 (List.drop (0 : Nat) ys_19)).length ≤ (1000000 : Nat)
      intro e_49
      intro ys_50
      intro q_51
      intro h20 -- e_49 = doE (List.take n_20 (List.drop (0 : Nat) ys_19)) [{ n := n, data := List.take b.length (List.drop (0 : Nat) z23) : Put }] (1 : Int) (0 : Int)
      intro h21 -- ys_50 = doO (List.take n_20 (List.drop (0 : Nat) ys_19)) [{ n := n, data := List.take b.length (List.drop (0 : Nat) z23) : Put }] (1 : Int) (0 : Int)
      intro h22 -- ys_50.length = q_51
      refine ⟨by first | omega | (dsimp only; omega), ?_⟩ -- d.length ≤ (1000000 : Nat)
      intro e_55
      intro ys_56
      intro q_57
      intro h23 -- e_55 = doE d [{ n := n, data := b : Put }] (1 : Int) (0 : Int)
      intro h24 -- ys_56 = doO d [{ n := n, data := b : Put }] (1 : Int) (0 : Int)
      intro h25 -- ys_56.length = q_57
      refine ⟨by first | omega | (dsimp only; omega), ?_⟩ -- (List.take n_20 (List.drop (0 : Nat) ys_19)).length ≤ (1000000 : Nat) ∧ l.length ≤ (1000000 : Nat)
      intro e_61
      intro ys_62
      intro n_63
      intro h26 -- e_61 = doE (List.take n_20 (List.drop (0 : Nat) ys_19)) l w t
      intro h27 -- ys_62 = doO (List.take n_20 (List.drop (0 : Nat) ys_19)) l w t
      intro h28 -- ys_62.length = n_63
      refine ⟨by first | omega | (dsimp only; omega), ?_⟩ -- d.length ≤ (1000000 : Nat) ∧ l.length ≤ (1000000 : Nat)
      intro e_67
      intro ys_68
      intro n_69
      intro h29 -- e_67 = doE d l w t
      intro h30 -- ys_68 = doO d l w t
      intro h31 -- ys_68.length = n_69
      intro e_73
      intro m_74
      intro h32 -- e_73 = chkE (List.take n_20 (List.drop (0 : Nat) ys_19))
      intro h33 -- m_74 = if dOk (List.take n_20 (List.drop (0 : Nat) ys_19)).length then (↑((List.take n_20 (List.drop (0 : Nat) ys_19)).length / (64 : Nat)) : Int) else (0 : Int)
      intro e_77
      intro h34 -- e_77 = chkE d
      intro r_79
      intro h35 -- r_79 = true ↔ List.take q_27 (List.drop (0 : Nat) ys_26) = List.take q_33 (List.drop (0 : Nat) ys_32)
      refine br_intro (fun c36 => ?_) (fun c36 => ?_) -- bif bif bif !r_79 then true else e_25 != e_31 then true else !{ data := (List.take q_39 (List.drop (0 : Nat) ys_38)).toArray : ByteArray }.data.toList == { data := (List.take q_45 (List.drop (0 : Nat) ys_44)).toArray : ByteArray }.data.toList then true else e_37 != e_43
      · -- yes
        simp at c36 -- ((r_79 = false ∨ ¬e_25 = e_31) ∨ ¬List.take q_39 ys_38 = List.take q_45 ys_44) ∨ ¬e_37 = e_43
        refine ⟨by with_reducible rfl, ?_⟩ -- true = true
        refine ⟨by with_reducible rfl, ?_⟩ -- true = true
        refine ⟨by with_reducible rfl, ?_⟩ -- true = true
        refine ⟨by with_reducible rfl, ?_⟩ -- true = true
        refine ⟨by with_reducible rfl, ?_⟩ -- true = true
        -- k (AV.bool false) [] []
        have TD : List.take n_20 (List.drop 0 ys_19) = d := by rw [← h6, List.drop_zero, List.take_length, h5]
        rw [TD] at h14 h15
        exfalso
        rcases c36 with ((c | c) | c) | c
        · rw [h35.2 (by rw [List.drop_zero, List.drop_zero, ← h9, ← h12, List.take_length, List.take_length, h8, h11])] at c; cases c
        · exact c (h7.trans h10.symm)
        · exact c (by rw [← h16, ← h19, List.take_length, List.take_length, h15, h18])
        · exact c (h14.trans h17.symm)
      · -- no
        simp at c36 -- ((r_79 = true ∧ e_25 = e_31) ∧ List.take q_39 ys_38 = List.take q_45 ys_44) ∧ e_37 = e_43
        intro r_81
        intro h37 -- r_81 = true ↔ List.take q_51 (List.drop (0 : Nat) ys_50) = List.take q_57 (List.drop (0 : Nat) ys_56)
        refine br_intro (fun c38 => ?_) (fun c38 => ?_) -- bif bif false then true else !r_81 then true else e_49 != e_55
        · -- yes
          simp at c38 -- r_81 = false ∨ ¬e_49 = e_55
          refine ⟨by with_reducible rfl, ?_⟩ -- true = true
          refine ⟨by with_reducible rfl, ?_⟩ -- true = true
          refine ⟨by with_reducible rfl, ?_⟩ -- true = true
          refine ⟨by with_reducible rfl, ?_⟩ -- true = true
          -- k (AV.bool false) [] []
          have TD : List.take n_20 (List.drop 0 ys_19) = d := by rw [← h6, List.drop_zero, List.take_length, h5]
          have TB : List.take b.length (List.drop 0 z23) = b := by rw [qz23, List.drop_zero, List.take_length]
          rw [TD, TB] at h20 h21
          exfalso
          rcases c38 with c | c
          · rw [h37.2 (by rw [List.drop_zero, List.drop_zero, ← h22, ← h25, List.take_length, List.take_length, h21, h24])] at c; cases c
          · exact c (h20.trans h23.symm)
        · -- no
          simp at c38 -- r_81 = true ∧ e_49 = e_55
          intro r_83
          intro h39 -- r_83 = true ↔ List.take n_63 (List.drop (0 : Nat) ys_62) = List.take n_69 (List.drop (0 : Nat) ys_68)
          refine br_intro (fun c40 => ?_) (fun c40 => ?_) -- bif bif bif false then true else !r_83 then true else e_61 != e_67 then true else e_73 != e_77
          · -- yes
            simp at c40 -- (r_83 = false ∨ ¬e_61 = e_67) ∨ ¬e_73 = e_77
            refine ⟨by with_reducible rfl, ?_⟩ -- true = true
            refine ⟨by with_reducible rfl, ?_⟩ -- true = true
            refine ⟨by with_reducible rfl, ?_⟩ -- true = true
            -- k (AV.bool false) [] []
            have TD : List.take n_20 (List.drop 0 ys_19) = d := by rw [← h6, List.drop_zero, List.take_length, h5]
            rw [TD] at h26 h27 h32
            exfalso
            rcases c40 with (c | c) | c
            · rw [h39.2 (by rw [List.drop_zero, List.drop_zero, ← h28, ← h31, List.take_length, List.take_length, h27, h30])] at c; cases c
            · exact c (h26.trans h29.symm)
            · exact c (h32.trans h34.symm)
          · -- no
            simp at c40 -- (r_83 = true ∧ e_61 = e_67) ∧ e_73 = e_77
            intro e_85
            intro h41 -- e_85 = chkE (List.take n_20 (List.drop (0 : Nat) ys_19))
            refine br_intro (fun c42 => ?_) (fun c42 => ?_) -- bif false then true else e_85 != e_77
            · -- yes
              simp at c42 -- ¬e_85 = e_77
              exfalso; omega
            · -- no
              simp at c42 -- e_85 = e_77
              refine br_intro (fun c43 => ?_) (fun c43 => ?_) -- e_77 == (0 : Int)
              · -- yes
                simp at c43 -- e_77 = (0 : Int)
                intro m_87
                intro h44 -- m_87 = (↑(d.length / (64 : Nat)) : Int)
                refine br_intro (fun c45 => ?_) (fun c45 => ?_) -- bif bif false then true else bif true then m_74 != m_87 else false then true else bif e_77 != (0 : Int) then m_74 != (0 : Int) else false
                · -- yes
                  simp at c45 -- ¬m_74 = m_87 ∨ ¬e_77 = (0 : Int) ∧ ¬m_74 = (0 : Int)
                  refine ⟨by with_reducible rfl, ?_⟩ -- true = true
                  -- k (AV.bool false) [] []
                  have TD : List.take n_20 (List.drop 0 ys_19) = d := by rw [← h6, List.drop_zero, List.take_length, h5]
                  rw [TD] at h33
                  have o := chk_0.1 (h34.symm.trans c43)
                  rw [if_pos o] at h33
                  exfalso
                  rcases c45 with c | c
                  · exact c (h33.trans h44.symm)
                  · exact c.1 c43
                · -- no
                  simp at c45 -- m_74 = m_87 ∧ (¬e_77 = (0 : Int) → m_74 = (0 : Int))
                  intro r_89
                  intro h46 -- r_89 = true ↔ d = List.take q_51 (List.drop (0 : Nat) ys_50)
                  intro r_91
                  intro h47 -- r_91 = true ↔ d = List.take q_51 (List.drop (0 : Nat) ys_50)
                  refine br_intro (fun c48 => ?_) (fun c48 => ?_) -- bif false then true else !r_89 == r_91
                  · -- yes
                    simp at c48 -- ¬r_89 = r_91
                    -- k (AV.bool false) [] []
                    exact (c48 (by rw [Bool.eq_iff_iff, h46, h47])).elim
                  · -- no
                    simp at c48 -- r_89 = r_91
                    refine ⟨?_, ?_⟩
                    · -- left
                      refine ⟨(Int.toNat (0 : Int), q_39, ys_38, n_63, ys_62), ?_⟩
                      refine ⟨by first | with_reducible rfl | rfl, ?_⟩ -- b = b
                      refine ⟨by first | with_reducible rfl | rfl, ?_⟩ -- (0 : Nat) = (0 : Nat)
                      refine ⟨by first | with_reducible rfl | rfl, ?_⟩ -- b.length = b.length
                      refine ⟨by first | with_reducible rfl | rfl, ?_⟩ -- (0 : Nat) = (0 : Nat)
                      refine ⟨by first | with_reducible rfl | rfl, ?_⟩ -- q_39 = q_39
                      refine ⟨by show (0 : Int) = (↑(Int.toNat (0 : Int)) : Int); omega, ?_⟩ -- (0 : Int) = (↑(Int.toNat (0 : Int)) : Int)
                      refine ⟨by first | with_reducible rfl | rfl, ?_⟩ -- d = d
                      refine ⟨by first | with_reducible rfl | rfl, ?_⟩ -- (0 : Nat) = (0 : Nat)
                      have h49 : n_20 = d.length := by
                        rw [← h6, h5]
                      refine ⟨h49, ?_⟩
                      refine ⟨by show ys_19 = d; assumption, ?_⟩ -- ys_19 = d
                      refine ⟨by show z23 = b; assumption, ?_⟩ -- z23 = b
                      refine ⟨by first | with_reducible rfl | rfl, ?_⟩ -- ys_38 = ys_38
                      refine ⟨by first | with_reducible rfl | rfl, ?_⟩ -- (0 : Nat) = (0 : Nat)
                      refine ⟨by first | with_reducible rfl | rfl, ?_⟩ -- n_63 = n_63
                      refine ⟨by first | with_reducible rfl | rfl, ?_⟩ -- ys_62 = ys_62
                      refine ⟨by show Int.toNat (0 : Int) ≤ q_39; omega, ?_⟩ -- Int.toNat (0 : Int) ≤ q_39
                      refine ⟨by show ys_38.length = q_39; assumption, ?_⟩ -- ys_38.length = q_39
                      exact by show ys_62.length = n_63; assumption -- ys_62.length = n_63
                    intro v_93
                    intro h50 -- v_93.fst ≤ v_93.snd.fst ∧ v_93.snd.snd.fst.length = v_93.snd.fst ∧ v_93.snd.snd.snd.snd.length = v_93.snd.snd.snd.fst
                    intro n95
                    intro q95 -- n95 = (↑v_93.snd.fst : Int)
                    intro ⟨l95, u95⟩ -- (-9223372036854775808 : Int) ≤ n95 ∧ n95 ≤ (9223372036854775807 : Int)
                    refine brd (fun c51 => ?_) (fun c51 => ?_) -- decide ((↑v_93.fst : Int) < n95)
                    · -- yes
                      refine ⟨by first | omega | (dsimp only; omega), ?_⟩ -- (0 : Int) ≤ (↑v_93.fst : Int)
                      refine ⟨by first | omega | (dsimp only; omega), ?_⟩ -- (↑v_93.fst : Int) < (↑v_93.snd.fst : Int)
                      refine ⟨by first | omega | (dsimp only; omega), ?_⟩ -- (0 : Nat) + (↑v_93.fst : Int).toNat < v_93.snd.snd.fst.length
                      intro n98
                      intro q98 -- n98 = (↑(v_93.snd.snd.fst.getD ((0 : Nat) + (↑v_93.fst : Int).toNat) (0 : UInt8)).toNat : Int)
                      intro ⟨l98, u98⟩ -- (0 : Int) ≤ n98 ∧ n98 ≤ (255 : Int)
                      intro n101
                      intro q101 -- n101 = IntKind.u8.wrap (n98 + (1 : Int))
                      rw [IntKind.wrap_u8] at q101
                      intro ⟨l101, u101⟩ -- (0 : Int) ≤ n101 ∧ n101 ≤ (255 : Int)
                      refine ⟨by first | omega | (dsimp only; omega), ?_⟩ -- (0 : Int) ≤ (↑v_93.fst : Int)
                      refine ⟨by first | omega | (dsimp only; omega), ?_⟩ -- (↑v_93.fst : Int) < (↑v_93.snd.fst : Int)
                      refine ⟨by first | omega | (dsimp only; omega), ?_⟩ -- (0 : Nat) + (↑v_93.fst : Int).toNat < v_93.snd.snd.fst.length
                      intro z104
                      intro qz104 -- z104 = v_93.snd.snd.fst.set ((0 : Nat) + (↑v_93.fst : Int).toNat) (UInt8.ofNat n101.toNat)
                      intro n106
                      intro q106 -- n106 = IntKind.i64.wrap ((↑v_93.fst : Int) + (1 : Int))
                      rw [IntKind.wrap_i64] at q106
                      intro ⟨l106, u106⟩ -- (-9223372036854775808 : Int) ≤ n106 ∧ n106 ≤ (9223372036854775807 : Int)
                      refine ⟨(n106.toNat, v_93.snd.fst, z104, v_93.snd.snd.snd.fst, v_93.snd.snd.snd.snd), ?_⟩
                      refine ⟨by first | with_reducible rfl | rfl, ?_⟩ -- b = b
                      refine ⟨by first | with_reducible rfl | rfl, ?_⟩ -- (0 : Nat) = (0 : Nat)
                      refine ⟨by first | with_reducible rfl | rfl, ?_⟩ -- b.length = b.length
                      refine ⟨by first | with_reducible rfl | rfl, ?_⟩ -- (0 : Nat) = (0 : Nat)
                      refine ⟨by first | with_reducible rfl | rfl, ?_⟩ -- v_93.snd.fst = v_93.snd.fst
                      refine ⟨by show n106 = (↑n106.toNat : Int); omega, ?_⟩ -- n106 = (↑n106.toNat : Int)
                      refine ⟨by first | with_reducible rfl | rfl, ?_⟩ -- d = d
                      refine ⟨by first | with_reducible rfl | rfl, ?_⟩ -- (0 : Nat) = (0 : Nat)
                      refine ⟨by first | with_reducible rfl | rfl, ?_⟩ -- d.length = d.length
                      refine ⟨by first | with_reducible rfl | rfl, ?_⟩ -- d = d
                      refine ⟨by first | with_reducible rfl | rfl, ?_⟩ -- b = b
                      refine ⟨by first | with_reducible rfl | rfl, ?_⟩ -- z104 = z104
                      refine ⟨by first | with_reducible rfl | rfl, ?_⟩ -- (0 : Nat) = (0 : Nat)
                      refine ⟨by first | with_reducible rfl | rfl, ?_⟩ -- v_93.snd.snd.snd.fst = v_93.snd.snd.snd.fst
                      refine ⟨by first | with_reducible rfl | rfl, ?_⟩ -- v_93.snd.snd.snd.snd = v_93.snd.snd.snd.snd
                      refine ⟨?_, ?_⟩
                      · -- left
                        refine ⟨by show n106.toNat ≤ v_93.snd.fst; omega, ?_⟩ -- n106.toNat ≤ v_93.snd.fst
                        have h52 : z104.length = v_93.snd.fst := by
                          rw [qz104, List.length_set]; exact h50.2.1
                        refine ⟨h52, ?_⟩
                        exact by show v_93.snd.snd.snd.snd.length = v_93.snd.snd.snd.fst; omega -- v_93.snd.snd.snd.snd.length = v_93.snd.snd.snd.fst
                      exact by show v_93.snd.fst - n106.toNat < v_93.snd.fst - v_93.fst; omega -- v_93.snd.fst - n106.toNat < v_93.snd.fst - v_93.fst
                    · -- no
                      refine ⟨?_, ?_⟩
                      · -- left
                        refine ⟨(Int.toNat (0 : Int), v_93.snd.snd.snd.fst, v_93.snd.snd.snd.snd), ?_⟩
                        refine ⟨by first | with_reducible rfl | rfl, ?_⟩ -- b = b
                        refine ⟨by first | with_reducible rfl | rfl, ?_⟩ -- (0 : Nat) = (0 : Nat)
                        refine ⟨by first | with_reducible rfl | rfl, ?_⟩ -- b.length = b.length
                        refine ⟨by show (0 : Int) = (↑(Int.toNat (0 : Int)) : Int); omega, ?_⟩ -- (0 : Int) = (↑(Int.toNat (0 : Int)) : Int)
                        refine ⟨by first | with_reducible rfl | rfl, ?_⟩ -- d = d
                        refine ⟨by first | with_reducible rfl | rfl, ?_⟩ -- (0 : Nat) = (0 : Nat)
                        refine ⟨by first | with_reducible rfl | rfl, ?_⟩ -- d.length = d.length
                        refine ⟨by first | with_reducible rfl | rfl, ?_⟩ -- d = d
                        refine ⟨by first | with_reducible rfl | rfl, ?_⟩ -- b = b
                        refine ⟨by first | with_reducible rfl | rfl, ?_⟩ -- (0 : Nat) = (0 : Nat)
                        refine ⟨by first | with_reducible rfl | rfl, ?_⟩ -- v_93.snd.snd.snd.fst = v_93.snd.snd.snd.fst
                        refine ⟨by first | with_reducible rfl | rfl, ?_⟩ -- v_93.snd.snd.snd.snd = v_93.snd.snd.snd.snd
                        refine ⟨by show Int.toNat (0 : Int) ≤ v_93.snd.snd.snd.fst; omega, ?_⟩ -- Int.toNat (0 : Int) ≤ v_93.snd.snd.snd.fst
                        exact by show v_93.snd.snd.snd.snd.length = v_93.snd.snd.snd.fst; omega -- v_93.snd.snd.snd.snd.length = v_93.snd.snd.snd.fst
                      intro v_109
                      intro ⟨a53, b53⟩ -- v_109.fst ≤ v_109.snd.fst ∧ v_109.snd.snd.length = v_109.snd.fst
                      intro n111
                      intro q111 -- n111 = (↑v_109.snd.fst : Int)
                      intro ⟨l111, u111⟩ -- (-9223372036854775808 : Int) ≤ n111 ∧ n111 ≤ (9223372036854775807 : Int)
                      refine brd (fun c54 => ?_) (fun c54 => ?_) -- decide ((↑v_109.fst : Int) < n111)
                      · -- yes
                        refine ⟨by first | omega | (dsimp only; omega), ?_⟩ -- (0 : Int) ≤ (↑v_109.fst : Int)
                        refine ⟨by first | omega | (dsimp only; omega), ?_⟩ -- (↑v_109.fst : Int) < (↑v_109.snd.fst : Int)
                        refine ⟨by first | omega | (dsimp only; omega), ?_⟩ -- (0 : Nat) + (↑v_109.fst : Int).toNat < v_109.snd.snd.length
                        intro n114
                        intro q114 -- n114 = (↑(v_109.snd.snd.getD ((0 : Nat) + (↑v_109.fst : Int).toNat) (0 : UInt8)).toNat : Int)
                        intro ⟨l114, u114⟩ -- (0 : Int) ≤ n114 ∧ n114 ≤ (255 : Int)
                        intro n117
                        intro q117 -- n117 = IntKind.u8.wrap (n114 + (1 : Int))
                        rw [IntKind.wrap_u8] at q117
                        intro ⟨l117, u117⟩ -- (0 : Int) ≤ n117 ∧ n117 ≤ (255 : Int)
                        refine ⟨by first | omega | (dsimp only; omega), ?_⟩ -- (0 : Int) ≤ (↑v_109.fst : Int)
                        refine ⟨by first | omega | (dsimp only; omega), ?_⟩ -- (↑v_109.fst : Int) < (↑v_109.snd.fst : Int)
                        refine ⟨by first | omega | (dsimp only; omega), ?_⟩ -- (0 : Nat) + (↑v_109.fst : Int).toNat < v_109.snd.snd.length
                        intro z120
                        intro qz120 -- z120 = v_109.snd.snd.set ((0 : Nat) + (↑v_109.fst : Int).toNat) (UInt8.ofNat n117.toNat)
                        intro n122
                        intro q122 -- n122 = IntKind.i64.wrap ((↑v_109.fst : Int) + (1 : Int))
                        rw [IntKind.wrap_i64] at q122
                        intro ⟨l122, u122⟩ -- (-9223372036854775808 : Int) ≤ n122 ∧ n122 ≤ (9223372036854775807 : Int)
                        refine ⟨(n122.toNat, v_109.snd.fst, z120), ?_⟩
                        refine ⟨by first | with_reducible rfl | rfl, ?_⟩ -- b = b
                        refine ⟨by first | with_reducible rfl | rfl, ?_⟩ -- (0 : Nat) = (0 : Nat)
                        refine ⟨by first | with_reducible rfl | rfl, ?_⟩ -- b.length = b.length
                        refine ⟨by show n122 = (↑n122.toNat : Int); omega, ?_⟩ -- n122 = (↑n122.toNat : Int)
                        refine ⟨by first | with_reducible rfl | rfl, ?_⟩ -- d = d
                        refine ⟨by first | with_reducible rfl | rfl, ?_⟩ -- (0 : Nat) = (0 : Nat)
                        refine ⟨by first | with_reducible rfl | rfl, ?_⟩ -- d.length = d.length
                        refine ⟨by first | with_reducible rfl | rfl, ?_⟩ -- d = d
                        refine ⟨by first | with_reducible rfl | rfl, ?_⟩ -- b = b
                        refine ⟨by first | with_reducible rfl | rfl, ?_⟩ -- (0 : Nat) = (0 : Nat)
                        refine ⟨by first | with_reducible rfl | rfl, ?_⟩ -- v_109.snd.fst = v_109.snd.fst
                        refine ⟨by first | with_reducible rfl | rfl, ?_⟩ -- z120 = z120
                        refine ⟨?_, ?_⟩
                        · -- left
                          refine ⟨by show n122.toNat ≤ v_109.snd.fst; omega, ?_⟩ -- n122.toNat ≤ v_109.snd.fst
                          -- z120.length = v_109.snd.fst
                          rw [qz120, List.length_set]; exact b53
                        exact by show v_109.snd.fst - n122.toNat < v_109.snd.fst - v_109.fst; omega -- v_109.snd.fst - n122.toNat < v_109.snd.fst - v_109.fst
                      · -- no
                        intro r_125
                        intro h55 -- r_125 = true ↔ List.take d.length (List.drop (0 : Nat) d) = d
                        exact by exact k_true hk (by simp [*]) -- k (AV.bool (bif r_125 then { data := (List.take b.length (List.drop (0 : Nat) b)).toArray : ByteArray }.data.toList == { data := b.toArray : ByteArray }.data.toList else false)) [] []
              · -- no
                simp at c43 -- ¬e_77 = (0 : Int)
                refine ⟨?_, ?_⟩
                · -- left
                  intro h56 -- false = false
                  simp at h56 -- True
                  exact by with_reducible rfl -- false = false
                refine br_intro (fun c57 => ?_) (fun c57 => ?_) -- bif bif false then true else false then true else bif e_77 != (0 : Int) then m_74 != (0 : Int) else false
                · -- yes
                  simp at c57 -- ¬e_77 = (0 : Int) ∧ ¬m_74 = (0 : Int)
                  refine ⟨by with_reducible rfl, ?_⟩ -- true = true
                  -- k (AV.bool false) [] []
                  have TD : List.take n_20 (List.drop 0 ys_19) = d := by rw [← h6, List.drop_zero, List.take_length, h5]
                  rw [TD] at h33
                  have o : ¬ dOk d.length := fun o => c43 (h34.trans (chk_0.2 o))
                  rw [if_neg o] at h33
                  exact absurd h33 c57.2
                · -- no
                  simp at c57 -- ¬e_77 = (0 : Int) → m_74 = (0 : Int)
                  intro r_127
                  intro h58 -- r_127 = true ↔ d = List.take q_51 (List.drop (0 : Nat) ys_50)
                  intro r_129
                  intro h59 -- r_129 = true ↔ d = List.take q_51 (List.drop (0 : Nat) ys_50)
                  refine br_intro (fun c60 => ?_) (fun c60 => ?_) -- bif false then true else !r_127 == r_129
                  · -- yes
                    simp at c60 -- ¬r_127 = r_129
                    -- k (AV.bool false) [] []
                    exact (c60 (by rw [Bool.eq_iff_iff, h58, h59])).elim
                  · -- no
                    simp at c60 -- r_127 = r_129
                    refine ⟨?_, ?_⟩
                    · -- left
                      refine ⟨(Int.toNat (0 : Int), q_39, ys_38, n_63, ys_62), ?_⟩
                      refine ⟨by first | with_reducible rfl | rfl, ?_⟩ -- b = b
                      refine ⟨by first | with_reducible rfl | rfl, ?_⟩ -- (0 : Nat) = (0 : Nat)
                      refine ⟨by first | with_reducible rfl | rfl, ?_⟩ -- b.length = b.length
                      refine ⟨by first | with_reducible rfl | rfl, ?_⟩ -- (0 : Nat) = (0 : Nat)
                      refine ⟨by first | with_reducible rfl | rfl, ?_⟩ -- q_39 = q_39
                      refine ⟨by show (0 : Int) = (↑(Int.toNat (0 : Int)) : Int); omega, ?_⟩ -- (0 : Int) = (↑(Int.toNat (0 : Int)) : Int)
                      refine ⟨by first | with_reducible rfl | rfl, ?_⟩ -- d = d
                      refine ⟨by first | with_reducible rfl | rfl, ?_⟩ -- (0 : Nat) = (0 : Nat)
                      have h61 : n_20 = d.length := by
                        rw [← h6, h5]
                      refine ⟨h61, ?_⟩
                      refine ⟨by show ys_19 = d; assumption, ?_⟩ -- ys_19 = d
                      refine ⟨by show z23 = b; assumption, ?_⟩ -- z23 = b
                      refine ⟨by first | with_reducible rfl | rfl, ?_⟩ -- ys_38 = ys_38
                      refine ⟨by first | with_reducible rfl | rfl, ?_⟩ -- (0 : Nat) = (0 : Nat)
                      refine ⟨by first | with_reducible rfl | rfl, ?_⟩ -- n_63 = n_63
                      refine ⟨by first | with_reducible rfl | rfl, ?_⟩ -- ys_62 = ys_62
                      refine ⟨by show Int.toNat (0 : Int) ≤ q_39; omega, ?_⟩ -- Int.toNat (0 : Int) ≤ q_39
                      refine ⟨by show ys_38.length = q_39; assumption, ?_⟩ -- ys_38.length = q_39
                      exact by show ys_62.length = n_63; assumption -- ys_62.length = n_63
                    intro v_131
                    intro h62 -- v_131.fst ≤ v_131.snd.fst ∧ v_131.snd.snd.fst.length = v_131.snd.fst ∧ v_131.snd.snd.snd.snd.length = v_131.snd.snd.snd.fst
                    intro n133
                    intro q133 -- n133 = (↑v_131.snd.fst : Int)
                    intro ⟨l133, u133⟩ -- (-9223372036854775808 : Int) ≤ n133 ∧ n133 ≤ (9223372036854775807 : Int)
                    refine brd (fun c63 => ?_) (fun c63 => ?_) -- decide ((↑v_131.fst : Int) < n133)
                    · -- yes
                      refine ⟨by first | omega | (dsimp only; omega), ?_⟩ -- (0 : Int) ≤ (↑v_131.fst : Int)
                      refine ⟨by first | omega | (dsimp only; omega), ?_⟩ -- (↑v_131.fst : Int) < (↑v_131.snd.fst : Int)
                      refine ⟨by first | omega | (dsimp only; omega), ?_⟩ -- (0 : Nat) + (↑v_131.fst : Int).toNat < v_131.snd.snd.fst.length
                      intro n136
                      intro q136 -- n136 = (↑(v_131.snd.snd.fst.getD ((0 : Nat) + (↑v_131.fst : Int).toNat) (0 : UInt8)).toNat : Int)
                      intro ⟨l136, u136⟩ -- (0 : Int) ≤ n136 ∧ n136 ≤ (255 : Int)
                      intro n139
                      intro q139 -- n139 = IntKind.u8.wrap (n136 + (1 : Int))
                      rw [IntKind.wrap_u8] at q139
                      intro ⟨l139, u139⟩ -- (0 : Int) ≤ n139 ∧ n139 ≤ (255 : Int)
                      refine ⟨by first | omega | (dsimp only; omega), ?_⟩ -- (0 : Int) ≤ (↑v_131.fst : Int)
                      refine ⟨by first | omega | (dsimp only; omega), ?_⟩ -- (↑v_131.fst : Int) < (↑v_131.snd.fst : Int)
                      refine ⟨by first | omega | (dsimp only; omega), ?_⟩ -- (0 : Nat) + (↑v_131.fst : Int).toNat < v_131.snd.snd.fst.length
                      intro z142
                      intro qz142 -- z142 = v_131.snd.snd.fst.set ((0 : Nat) + (↑v_131.fst : Int).toNat) (UInt8.ofNat n139.toNat)
                      intro n144
                      intro q144 -- n144 = IntKind.i64.wrap ((↑v_131.fst : Int) + (1 : Int))
                      rw [IntKind.wrap_i64] at q144
                      intro ⟨l144, u144⟩ -- (-9223372036854775808 : Int) ≤ n144 ∧ n144 ≤ (9223372036854775807 : Int)
                      refine ⟨(n144.toNat, v_131.snd.fst, z142, v_131.snd.snd.snd.fst, v_131.snd.snd.snd.snd), ?_⟩
                      refine ⟨by first | with_reducible rfl | rfl, ?_⟩ -- b = b
                      refine ⟨by first | with_reducible rfl | rfl, ?_⟩ -- (0 : Nat) = (0 : Nat)
                      refine ⟨by first | with_reducible rfl | rfl, ?_⟩ -- b.length = b.length
                      refine ⟨by first | with_reducible rfl | rfl, ?_⟩ -- (0 : Nat) = (0 : Nat)
                      refine ⟨by first | with_reducible rfl | rfl, ?_⟩ -- v_131.snd.fst = v_131.snd.fst
                      refine ⟨by show n144 = (↑n144.toNat : Int); omega, ?_⟩ -- n144 = (↑n144.toNat : Int)
                      refine ⟨by first | with_reducible rfl | rfl, ?_⟩ -- d = d
                      refine ⟨by first | with_reducible rfl | rfl, ?_⟩ -- (0 : Nat) = (0 : Nat)
                      refine ⟨by first | with_reducible rfl | rfl, ?_⟩ -- d.length = d.length
                      refine ⟨by first | with_reducible rfl | rfl, ?_⟩ -- d = d
                      refine ⟨by first | with_reducible rfl | rfl, ?_⟩ -- b = b
                      refine ⟨by first | with_reducible rfl | rfl, ?_⟩ -- z142 = z142
                      refine ⟨by first | with_reducible rfl | rfl, ?_⟩ -- (0 : Nat) = (0 : Nat)
                      refine ⟨by first | with_reducible rfl | rfl, ?_⟩ -- v_131.snd.snd.snd.fst = v_131.snd.snd.snd.fst
                      refine ⟨by first | with_reducible rfl | rfl, ?_⟩ -- v_131.snd.snd.snd.snd = v_131.snd.snd.snd.snd
                      refine ⟨?_, ?_⟩
                      · -- left
                        refine ⟨by show n144.toNat ≤ v_131.snd.fst; omega, ?_⟩ -- n144.toNat ≤ v_131.snd.fst
                        have h64 : z142.length = v_131.snd.fst := by
                          rw [qz142, List.length_set]; exact h62.2.1
                        refine ⟨h64, ?_⟩
                        exact by show v_131.snd.snd.snd.snd.length = v_131.snd.snd.snd.fst; omega -- v_131.snd.snd.snd.snd.length = v_131.snd.snd.snd.fst
                      exact by show v_131.snd.fst - n144.toNat < v_131.snd.fst - v_131.fst; omega -- v_131.snd.fst - n144.toNat < v_131.snd.fst - v_131.fst
                    · -- no
                      refine ⟨?_, ?_⟩
                      · -- left
                        refine ⟨(Int.toNat (0 : Int), v_131.snd.snd.snd.fst, v_131.snd.snd.snd.snd), ?_⟩
                        refine ⟨by first | with_reducible rfl | rfl, ?_⟩ -- b = b
                        refine ⟨by first | with_reducible rfl | rfl, ?_⟩ -- (0 : Nat) = (0 : Nat)
                        refine ⟨by first | with_reducible rfl | rfl, ?_⟩ -- b.length = b.length
                        refine ⟨by show (0 : Int) = (↑(Int.toNat (0 : Int)) : Int); omega, ?_⟩ -- (0 : Int) = (↑(Int.toNat (0 : Int)) : Int)
                        refine ⟨by first | with_reducible rfl | rfl, ?_⟩ -- d = d
                        refine ⟨by first | with_reducible rfl | rfl, ?_⟩ -- (0 : Nat) = (0 : Nat)
                        refine ⟨by first | with_reducible rfl | rfl, ?_⟩ -- d.length = d.length
                        refine ⟨by first | with_reducible rfl | rfl, ?_⟩ -- d = d
                        refine ⟨by first | with_reducible rfl | rfl, ?_⟩ -- b = b
                        refine ⟨by first | with_reducible rfl | rfl, ?_⟩ -- (0 : Nat) = (0 : Nat)
                        refine ⟨by first | with_reducible rfl | rfl, ?_⟩ -- v_131.snd.snd.snd.fst = v_131.snd.snd.snd.fst
                        refine ⟨by first | with_reducible rfl | rfl, ?_⟩ -- v_131.snd.snd.snd.snd = v_131.snd.snd.snd.snd
                        refine ⟨by show Int.toNat (0 : Int) ≤ v_131.snd.snd.snd.fst; omega, ?_⟩ -- Int.toNat (0 : Int) ≤ v_131.snd.snd.snd.fst
                        exact by show v_131.snd.snd.snd.snd.length = v_131.snd.snd.snd.fst; omega -- v_131.snd.snd.snd.snd.length = v_131.snd.snd.snd.fst
                      intro v_147
                      intro ⟨a65, b65⟩ -- v_147.fst ≤ v_147.snd.fst ∧ v_147.snd.snd.length = v_147.snd.fst
                      intro n149
                      intro q149 -- n149 = (↑v_147.snd.fst : Int)
                      intro ⟨l149, u149⟩ -- (-9223372036854775808 : Int) ≤ n149 ∧ n149 ≤ (9223372036854775807 : Int)
                      refine brd (fun c66 => ?_) (fun c66 => ?_) -- decide ((↑v_147.fst : Int) < n149)
                      · -- yes
                        refine ⟨by first | omega | (dsimp only; omega), ?_⟩ -- (0 : Int) ≤ (↑v_147.fst : Int)
                        refine ⟨by first | omega | (dsimp only; omega), ?_⟩ -- (↑v_147.fst : Int) < (↑v_147.snd.fst : Int)
                        refine ⟨by first | omega | (dsimp only; omega), ?_⟩ -- (0 : Nat) + (↑v_147.fst : Int).toNat < v_147.snd.snd.length
                        intro n152
                        intro q152 -- n152 = (↑(v_147.snd.snd.getD ((0 : Nat) + (↑v_147.fst : Int).toNat) (0 : UInt8)).toNat : Int)
                        intro ⟨l152, u152⟩ -- (0 : Int) ≤ n152 ∧ n152 ≤ (255 : Int)
                        intro n155
                        intro q155 -- n155 = IntKind.u8.wrap (n152 + (1 : Int))
                        rw [IntKind.wrap_u8] at q155
                        intro ⟨l155, u155⟩ -- (0 : Int) ≤ n155 ∧ n155 ≤ (255 : Int)
                        refine ⟨by first | omega | (dsimp only; omega), ?_⟩ -- (0 : Int) ≤ (↑v_147.fst : Int)
                        refine ⟨by first | omega | (dsimp only; omega), ?_⟩ -- (↑v_147.fst : Int) < (↑v_147.snd.fst : Int)
                        refine ⟨by first | omega | (dsimp only; omega), ?_⟩ -- (0 : Nat) + (↑v_147.fst : Int).toNat < v_147.snd.snd.length
                        intro z158
                        intro qz158 -- z158 = v_147.snd.snd.set ((0 : Nat) + (↑v_147.fst : Int).toNat) (UInt8.ofNat n155.toNat)
                        intro n160
                        intro q160 -- n160 = IntKind.i64.wrap ((↑v_147.fst : Int) + (1 : Int))
                        rw [IntKind.wrap_i64] at q160
                        intro ⟨l160, u160⟩ -- (-9223372036854775808 : Int) ≤ n160 ∧ n160 ≤ (9223372036854775807 : Int)
                        refine ⟨(n160.toNat, v_147.snd.fst, z158), ?_⟩
                        refine ⟨by first | with_reducible rfl | rfl, ?_⟩ -- b = b
                        refine ⟨by first | with_reducible rfl | rfl, ?_⟩ -- (0 : Nat) = (0 : Nat)
                        refine ⟨by first | with_reducible rfl | rfl, ?_⟩ -- b.length = b.length
                        refine ⟨by show n160 = (↑n160.toNat : Int); omega, ?_⟩ -- n160 = (↑n160.toNat : Int)
                        refine ⟨by first | with_reducible rfl | rfl, ?_⟩ -- d = d
                        refine ⟨by first | with_reducible rfl | rfl, ?_⟩ -- (0 : Nat) = (0 : Nat)
                        refine ⟨by first | with_reducible rfl | rfl, ?_⟩ -- d.length = d.length
                        refine ⟨by first | with_reducible rfl | rfl, ?_⟩ -- d = d
                        refine ⟨by first | with_reducible rfl | rfl, ?_⟩ -- b = b
                        refine ⟨by first | with_reducible rfl | rfl, ?_⟩ -- (0 : Nat) = (0 : Nat)
                        refine ⟨by first | with_reducible rfl | rfl, ?_⟩ -- v_147.snd.fst = v_147.snd.fst
                        refine ⟨by first | with_reducible rfl | rfl, ?_⟩ -- z158 = z158
                        refine ⟨?_, ?_⟩
                        · -- left
                          refine ⟨by show n160.toNat ≤ v_147.snd.fst; omega, ?_⟩ -- n160.toNat ≤ v_147.snd.fst
                          -- z158.length = v_147.snd.fst
                          rw [qz158, List.length_set]; exact b65
                        exact by show v_147.snd.fst - n160.toNat < v_147.snd.fst - v_147.fst; omega -- v_147.snd.fst - n160.toNat < v_147.snd.fst - v_147.fst
                      · -- no
                        intro r_163
                        intro h67 -- r_163 = true ↔ List.take d.length (List.drop (0 : Nat) d) = d
                        exact by exact k_true hk (by simp [*]) -- k (AV.bool (bif r_163 then { data := (List.take b.length (List.drop (0 : Nat) b)).toArray : ByteArray }.data.toList == { data := b.toArray : ByteArray }.data.toList else false)) [] []

theorem blockDoes_ok : Holds Try.prog 7 lawDoes := by
  refine fn_sound (env := mkEnv N9) (tab_ok N9_ok) Try.func7 Try.call7 fun args k h => ?_
  match args, h with
  | [.agg [.sl 0 d], .sl 9 l, .int .i64 w, .int .i64 t, .int .i64 n, .sl 0 b], h => exact ⟨by kernel_rfl, doesLoops d l w t n b, fun _ _ => none, .cast (by kernel_rfl) (blockDoes_vc d l w h.1.1 h.1.2 t h.2.1.1 h.2.1.2 n h.2.2.1.1 h.2.2.1.2 b k h.2.2.2)⟩
end Go.Proofs.Ytiekaipompepdaa
namespace Go.Proofs.Ytiekaipompepdaa
open Go.ChangeShapes Go.WideShapes Go.ChangeAt Go.RowKit Go.Eng
set_option linter.unusedVariables false

theorem ownD : ownKnob Try.prog.godebug = none := by kernel_rfl
theorem laidD : laidOutB Try.prog = true := by kernel_rfl

set_option maxHeartbeats 800000 in
set_option maxRecDepth 100000 in
theorem blockDoesLifted (os : Os) (started : os.Started) (H : Type) (enc : TypeId × Value → H) :
    ReturnsInHanded {} Try.checked os 7 .any (Rows.blockDoesSpec.pre6 enc Try.prog Try.f7 Rows.blockDoesRow.domain false) (Rows.blockDoesSpec.post enc Try.prog Try.f7 false true false false) := by
  refine returnsInHanded_of_change (C := Try.checked) ownD started (by kernel_rfl) Try.func7
    (ChangeSpec.witness6 (enc := enc) (C := Try.checked) false ⟨#[], #[.agg #[.slice none 0 0], .slice none 0 0, .int .i64 0, .int .i64 0, .int .i64 0, .slice none 0 0], []⟩ 8 (by kernel_rfl) (by kernel_rfl) (by kernel_rfl) (by kernel_rfl)) ?_
  intro W base args ds gs before hval0 hW hcnd _
  have hval : ∀ (j : Nat) t v, Try.f7.params[j]? = some t → args[j]? = some v → Value.okWide Try.prog W .any base t v := hval0
  have hW' := hW
  obtain ⟨p, q, hA0, hV, rfl, hfz, hnd⟩ := hW
  have hA : DataW.TrodAll enc Try.prog W 0 (fun _ => true) true Try.f7.params.toList args.toList ds p := hA0
  rw [Try.params7] at hA hval
  obtain ⟨v0, vs0, d0, ds0, p0, q0, hargs, rfl, rfl, h0, r0⟩ := trodAll_cons hA
  obtain ⟨v1, vs1, d1, ds1, p1, q1, rfl, rfl, rfl, h1, r1⟩ := trodAll_cons r0
  obtain ⟨v2, vs2, d2, ds2, p2, q2, rfl, rfl, rfl, h2, r2⟩ := trodAll_cons r1
  obtain ⟨v3, vs3, d3, ds3, p3, q3, rfl, rfl, rfl, h3, r3⟩ := trodAll_cons r2
  obtain ⟨v4, vs4, d4, ds4, p4, q4, rfl, rfl, rfl, h4, r4⟩ := trodAll_cons r3
  obtain ⟨v5, vs5, d5, ds5, p5, q5, rfl, rfl, rfl, h5, r5⟩ := trodAll_cons r4
  obtain ⟨rfl, rfl, rfl⟩ := trodAll_nil r5
  obtain rfl : args = #[v0, v1, v2, v3, v4, v5] := by cases args; simp_all
  obtain ⟨rfl, rfl⟩ := trodVars_none hV
  have k0 := h0
  have lt0 : ∀ x ∈ p0, x.block < W.heap.size := by obtain ⟨m, hm⟩ := k0; exact DataW.trod_lt m _ _ _ hm
  obtain ⟨fuel0, hf0⟩ := h0
  obtain ⟨cs0, rfl, hsz0, hcs0⟩ := open_scal Try.underlying24 (by kernel_rfl) (by kernel_rfl) (hval 0 24 v0 rfl rfl) hf0
  obtain ⟨c0_0, rfl⟩ : ∃ b0, cs0 = #[b0] := by
    exact arr1 hsz0
  obtain ⟨n0_0, y0_0, hy0_0⟩ := hcs0 0 _ _ rfl rfl
  obtain ⟨u0_0, xs0_0, e0_0, o0_0, w0_0, -⟩ := rep_slice (c := 0) (by decide) Try.underlying22 (by kernel_rfl) (cells_u8 Try.underlying5) hy0_0
  obtain rfl : c0_0 = u0_0 := by simpa using e0_0
  have k1 := h1
  have lt1 : ∀ x ∈ p1, x.block < W.heap.size := by obtain ⟨m, hm⟩ := k1; exact DataW.trod_lt m _ _ _ hm
  obtain ⟨xs1, w1, z1⟩ : ∃ xs : List (ty 9), Rep W (· < W.heap.size) noIds v1 (.sl 9 xs) ∧ DSz ZPut d1 xs := by
    obtain ⟨fuel, hf⟩ := h1
    exact rep_in (c := 9) (by decide) Try.underlying25 (by kernel_rfl) (cells_put Try.underlying28 (by kernel_rfl) rfl Try.underlying3 Try.underlying22 Try.underlying5 (by kernel_rfl) (by kernel_rfl) (by kernel_rfl)) (hval 1 25 v1 rfl rfl) hf
  obtain ⟨a2, rfl, rfl, rfl, w2⟩ := open_int Try.underlying3 (hval 2 3 v2 rfl rfl) h2
  obtain ⟨a3, rfl, rfl, rfl, w3⟩ := open_int Try.underlying3 (hval 3 3 v3 rfl rfl) h3
  obtain ⟨a4, rfl, rfl, rfl, w4⟩ := open_int Try.underlying3 (hval 4 3 v4 rfl rfl) h4
  have k5 := h5
  have lt5 : ∀ x ∈ p5, x.block < W.heap.size := by obtain ⟨m, hm⟩ := k5; exact DataW.trod_lt m _ _ _ hm
  obtain ⟨xs5, w5, z5⟩ : ∃ xs : List (ty 0), Rep W (· < W.heap.size) noIds v5 (.sl 0 xs) ∧ DSz Z0 d5 xs := by
    obtain ⟨fuel, hf⟩ := h5
    exact rep_in (c := 0) (by decide) Try.underlying22 (by kernel_rfl) (cells_u8 Try.underlying5) (hval 5 22 v5 rfl rfl) hf
  clear hA0 hval0
  have hk2 : kwf .i64 a2 := by simpa [Lit.wf, kwf] using w2
  have hk3 : kwf .i64 a3 := by simpa [Lit.wf, kwf] using w3
  have hk4 : kwf .i64 a4 := by simpa [Lit.wf, kwf] using w4
  refine (calls_of_holds blockDoes_ok Try.call7 (w := W) (vals := #[.agg #[c0_0], v1, .int .i64 a2, .int .i64 a3, .int .i64 a4, v5]) (args := [.agg [.sl 0 xs0_0], .sl 9 xs1, .int .i64 a2, .int .i64 a3, .int .i64 a4, .sl 0 xs5]) rfl (fun j v hj => ?_) ⟨hk2, hk3, hk4, rfl⟩).mono fun e W' ⟨he, bel⟩ => ?_
  · rcases j with _ | _ | _ | _ | _ | _ | j
    · simp at hj; subst hj; refine .agg rfl (fun j v h => ?_) (fun j v h => ?_) <;> rcases j with _ | j <;> simp at h <;> subst h <;> first | rfl | exact .bool | exact .int (by assumption) | assumption
    · simp at hj; subst hj; exact w1
    · simp at hj; subst hj; exact .int hk2
    · simp at hj; subst hj; exact .int hk3
    · simp at hj; subst hj; exact .int hk4
    · simp at hj; subst hj; exact w5
    · simp at hj
  subst he
  exact ⟨_, rfl, _, _, _, [], _, [], hW', trodAll_mk1 (shut_bool Try.underlying4 _), (trodAll_cons_mk (Below.trod laidD (by kernel_rfl) (of_decide_eq_true (by kernel_rfl)) k0 bel lt0) (trodAll_cons_mk (Below.trod laidD (by kernel_rfl) (of_decide_eq_true (by kernel_rfl)) k1 bel lt1) (trodAll_cons_mk (shut_int Try.underlying3 w2) (trodAll_cons_mk (shut_int Try.underlying3 w3) (trodAll_cons_mk (shut_int Try.underlying3 w4) (trodAll_cons_mk (Below.trod laidD (by kernel_rfl) (of_decide_eq_true (by kernel_rfl)) k5 bel lt5) trodAll_mk0)))))), rfl, bel.frame _, fun h => by cases h⟩

theorem blockDoes_said : Rows.BlockDoesSaid :=
  OpenClaim.holds_of_wide 7 Try.f7 rfl rfl rfl rfl rfl rfl rfl ⟨rfl, rfl, rfl, rfl, rfl⟩ rfl rfl rfl rfl rfl (by kernel_rfl) Try.func7 (by kernel_rfl)
    (of_decide_eq_true (by kernel_rfl)) (by unfold Func.isWrapper; first | (rw [if_pos (by decide +kernel)]; kernel_rfl) | (rw [if_neg (by decide +kernel)]; exact ⟨rfl, rfl⟩))
    (fun os started H enc _ => blockDoesLifted os started H enc)
#print axioms blockDoes_said
end Go.Proofs.Ytiekaipompepdaa


