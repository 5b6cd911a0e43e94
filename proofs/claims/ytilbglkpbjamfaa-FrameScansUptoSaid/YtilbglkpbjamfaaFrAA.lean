/- FrameScans: messages are found in bytes, and in bytes as they come, as the document says; the bytes stay as they were. Any bytes, any pieces, of at most a million elements in all. No conditions beyond the row's own. -/
import Derived.Test.YtilbglkpbjamfaaFrZ
import Derived.Test.YtilbglkpbjamfaaRows
namespace Go.Proofs.Ytilbglkpbjamfaa
open Go Go.Eng Go.Rw Go.Fr Go.Proofs
set_option linter.unusedVariables false
set_option maxHeartbeats 2000000 in
theorem frameScans_vc (b : List UInt8) (p : List (List UInt8)) (hb : b.length ≤ (1048576 : Nat)) (hp : p.length ≤ (1048576 : Nat)) (ht : p.flatten.length ≤ (1048576 : Nat)) (k : AV → List (Option Blk) → List Blk → Prop) (hk : k (AV.bool true) [] []) :
  (
   ∃ (v : Nat × Int),
   (b = b) ∧
   (p = p) ∧
   ((0 : Int) = v.snd) ∧
   ((0 : Int) = (↑v.fst : Int)) ∧
   (v.fst ≤ p.length) ∧
   (p.length ≤ (1048576 : Nat)) ∧
   ((0 : Int) ≤ v.snd) ∧
   (v.snd ≤ (30000 : Int) * (↑v.fst : Int))) ∧
  ∀ (v_1 : Nat × Int),
  (v_1.fst ≤ p.length ∧ p.length ≤ (1048576 : Nat) ∧ (0 : Int) ≤ v_1.snd ∧ v_1.snd ≤ (30000 : Int) * (↑v_1.fst : Int)) →
  ∀ (n3 : Int),
  (n3 = (↑p.length : Int)) →
  ((-9223372036854775808 : Int) ≤ n3 ∧ n3 ≤ (9223372036854775807 : Int)) →
  br (decide ((↑v_1.fst : Int) < n3))
   (((0 : Int) ≤ (↑v_1.fst : Int)) ∧
    ((↑v_1.fst : Int) < (↑p.length : Int)) ∧
    ∀ (n6 : Int),
    (n6 = (↑(p.getD (↑v_1.fst : Int).toNat (dflt (6 : Nat))).length : Int)) →
    ((-9223372036854775808 : Int) ≤ n6 ∧ n6 ≤ (9223372036854775807 : Int)) →
    ∀ (n9 : Int),
    (n9 = min n6 (30000 : Int)) →
    ((-9223372036854775808 : Int) ≤ n9 ∧ n9 ≤ (9223372036854775807 : Int)) →
    ∀ (n12 : Int),
    (n12 = IntKind.i64.wrap (v_1.snd + n9)) →
    ((-9223372036854775808 : Int) ≤ n12 ∧ n12 ≤ (9223372036854775807 : Int)) →
    ∀ (n15 : Int),
    (n15 = IntKind.i64.wrap ((↑v_1.fst : Int) + (1 : Int))) →
    ((-9223372036854775808 : Int) ≤ n15 ∧ n15 ≤ (9223372036854775807 : Int)) →
    ∃ (v' : Nat × Int),
    (b = b) ∧
    (p = p) ∧
    (n12 = v'.snd) ∧
    (n15 = (↑v'.fst : Int)) ∧
    (
     (v'.fst ≤ p.length) ∧
     (p.length ≤ (1048576 : Nat)) ∧
     ((0 : Int) ≤ v'.snd) ∧
     (v'.snd ≤ (30000 : Int) * (↑v'.fst : Int))) ∧
    (p.length - v'.fst < p.length - v_1.fst))
   (∀ (n18 : Int),
    (n18 = (↑b.length : Int)) →
    ((-9223372036854775808 : Int) ≤ n18 ∧ n18 ≤ (9223372036854775807 : Int)) →
    ∀ (n21 : Int),
    (n21 = (↑p.length : Int)) →
    br (bif bif decide (n18 > (20000 : Int)) then true else decide (n21 > (60 : Int)) then true else decide (v_1.snd > (40000 : Int)))
     ((k (AV.bool true) [] []))
     ((b.length * (1 : Nat) ≤ (140737488355328 : Nat)) ∧
      ∀ (z23 : List UInt8),
      (z23 = b) →
      ∀ (e_25 : Int),
      ∀ (a_26 : Int),
      ∀ (ys_27 : List Msg),
      ∀ (n_28 : Nat),
      (e_25 = sE (List.take b.length (List.drop (0 : Nat) z23))) →
      (a_26 = sA (List.take b.length (List.drop (0 : Nat) z23))) →
      (ys_27 = sO (List.take b.length (List.drop (0 : Nat) z23))) →
      (ys_27.length = n_28) →
      ∀ (e_33 : Int),
      ∀ (a_34 : Int),
      ∀ (ys_35 : List Msg),
      ∀ (n_36 : Nat),
      (e_33 = sE b) →
      (a_34 = sA b) →
      (ys_35 = sO b) →
      (ys_35.length = n_36) →
      ∀ (r_41 : Bool),
      (r_41 = true ↔ List.take n_28 (List.drop (0 : Nat) ys_27) = List.take n_36 (List.drop (0 : Nat) ys_35)) →
      br (bif bif bif !r_41 then true else a_26 != a_34 then true else e_25 != e_33 then true else !{ data := (List.take b.length (List.drop (0 : Nat) z23)).toArray : ByteArray }.data.toList == { data := b.toArray : ByteArray }.data.toList)
       ((k (AV.bool false) [] []))
       ((
         ∃ (v : Nat × List UInt8 × Nat × Nat × Bool × Bool × List UInt8 × Nat),
         (p = p) ∧
         ((0 : Nat) = (0 : Nat)) ∧
         ((0 : Nat) = v.snd.snd.fst) ∧
         ((0 : Int) = (↑v.snd.snd.snd.fst : Int)) ∧
         ((0 : Int) = (↑v.fst : Int)) ∧
         ((0 : Nat) = (0 : Nat)) ∧
         ((0 : Nat) = v.snd.snd.snd.snd.snd.snd.snd) ∧
         (false = v.snd.snd.snd.snd.fst) ∧
         (false = v.snd.snd.snd.snd.snd.fst) ∧
         (true = true) ∧
         ([] = v.snd.snd.snd.snd.snd.snd.fst) ∧
         ([] = v.snd.fst) ∧
         (v.fst ≤ p.length) ∧
         (
          (p.length ≤ (1048576 : Nat)) ∧
          (p.flatten.length ≤ (1048576 : Nat))) ∧
         (v.snd.snd.fst = v.snd.fst.length) ∧
         (v.snd.snd.snd.fst ≤ v.snd.fst.length) ∧
         (
          (v.snd.snd.snd.snd.snd.snd.snd ≤ v.snd.snd.snd.snd.snd.snd.fst.length) ∧
          (v.snd.snd.snd.snd.snd.snd.snd ≤ (1043 : Nat))) ∧
         (SIn p v.fst v.snd.fst v.snd.snd.snd.fst v.snd.snd.snd.snd.fst v.snd.snd.snd.snd.snd.fst (List.take v.snd.snd.snd.snd.snd.snd.snd v.snd.snd.snd.snd.snd.snd.fst))) ∧
        ∀ (v_43 : Nat × List UInt8 × Nat × Nat × Bool × Bool × List UInt8 × Nat),
        (v_43.fst ≤ p.length ∧ (p.length ≤ (1048576 : Nat) ∧ p.flatten.length ≤ (1048576 : Nat)) ∧ v_43.snd.snd.fst = v_43.snd.fst.length ∧ v_43.snd.snd.snd.fst ≤ v_43.snd.fst.length ∧ (v_43.snd.snd.snd.snd.snd.snd.snd ≤ v_43.snd.snd.snd.snd.snd.snd.fst.length ∧ v_43.snd.snd.snd.snd.snd.snd.snd ≤ (1043 : Nat)) ∧ SIn p v_43.fst v_43.snd.fst v_43.snd.snd.snd.fst v_43.snd.snd.snd.snd.fst v_43.snd.snd.snd.snd.snd.fst (List.take v_43.snd.snd.snd.snd.snd.snd.snd v_43.snd.snd.snd.snd.snd.snd.fst)) →
        ∀ (n45 : Int),
        (n45 = (↑p.length : Int)) →
        ((-9223372036854775808 : Int) ≤ n45 ∧ n45 ≤ (9223372036854775807 : Int)) →
        br (decide ((↑v_43.fst : Int) < n45))
         (((0 : Int) ≤ (↑v_43.fst : Int)) ∧
          ((↑v_43.fst : Int) < (↑p.length : Int)) ∧
          ((p.getD (↑v_43.fst : Int).toNat (dflt (6 : Nat))).length * (1 : Nat) ≤ (140737488355328 : Nat)) ∧
          ∀ (z48 : List UInt8),
          (z48 = p.getD (↑v_43.fst : Int).toNat (dflt (6 : Nat))) →
          (
           (
            (v_43.snd.snd.snd.snd.snd.snd.snd ≤ v_43.snd.snd.snd.snd.snd.snd.fst.length) ∧
            (v_43.snd.snd.snd.snd.snd.snd.snd ≤ (1043 : Nat))) ∧
           ((p.getD (↑v_43.fst : Int).toNat (dflt (6 : Nat))).length = z48.length)) ∧
          (
           ((16384 : Nat) < z48.length) →
           ((0 : Int) ≤ (↑v_43.fst : Int)) ∧
           ((↑v_43.fst : Int) < (↑p.length : Int)) ∧
           ∀ (n51 : Int),
           (n51 = (↑(p.getD (↑v_43.fst : Int).toNat (dflt (6 : Nat))).length : Int)) →
           ((-9223372036854775808 : Int) ≤ n51 ∧ n51 ≤ (9223372036854775807 : Int)) →
           br (decide (n51 > (16384 : Int)))
            (∀ (n54 : Int),
             (n54 = (0 : Int)) →
             br (bif (3 : Int) != (3 : Int) then true else n54 != (0 : Int))
              ((k (AV.bool false) [] []))
              (∀ (n56 : Int),
               (n56 = IntKind.i64.wrap ((↑v_43.fst : Int) + (1 : Int))) →
               ((-9223372036854775808 : Int) ≤ n56 ∧ n56 ≤ (9223372036854775807 : Int)) →
               ∃ (v' : Nat × List UInt8 × Nat × Nat × Bool × Bool × List UInt8 × Nat),
               (p = p) ∧
               ((0 : Nat) = (0 : Nat)) ∧
               (v_43.snd.snd.fst = v'.snd.snd.fst) ∧
               ((↑v_43.snd.snd.snd.fst : Int) = (↑v'.snd.snd.snd.fst : Int)) ∧
               (n56 = (↑v'.fst : Int)) ∧
               ((0 : Nat) = (0 : Nat)) ∧
               (v_43.snd.snd.snd.snd.snd.snd.snd = v'.snd.snd.snd.snd.snd.snd.snd) ∧
               (v_43.snd.snd.snd.snd.fst = v'.snd.snd.snd.snd.fst) ∧
               (v_43.snd.snd.snd.snd.snd.fst = v'.snd.snd.snd.snd.snd.fst) ∧
               (true = true) ∧
               (v_43.snd.snd.snd.snd.snd.snd.fst = v'.snd.snd.snd.snd.snd.snd.fst) ∧
               (v_43.snd.fst = v'.snd.fst) ∧
               (
                (v'.fst ≤ p.length) ∧
                (
                 (p.length ≤ (1048576 : Nat)) ∧
                 (p.flatten.length ≤ (1048576 : Nat))) ∧
                (v'.snd.snd.fst = v'.snd.fst.length) ∧
                (v'.snd.snd.snd.fst ≤ v'.snd.fst.length) ∧
                (
                 (v'.snd.snd.snd.snd.snd.snd.snd ≤ v'.snd.snd.snd.snd.snd.snd.fst.length) ∧
                 (v'.snd.snd.snd.snd.snd.snd.snd ≤ (1043 : Nat))) ∧
                (SIn p v'.fst v'.snd.fst v'.snd.snd.snd.fst v'.snd.snd.snd.snd.fst v'.snd.snd.snd.snd.snd.fst (List.take v'.snd.snd.snd.snd.snd.snd.snd v'.snd.snd.snd.snd.snd.snd.fst))) ∧
               (p.length - v'.fst < p.length - v_43.fst)))
            (((0 : Int) ≤ (↑v_43.fst : Int)) ∧
             ((↑v_43.fst : Int) < (↑p.length : Int)) ∧
             ((v_43.snd.snd.fst + (p.getD (↑v_43.fst : Int).toNat (dflt (6 : Nat))).length) * (1 : Nat) ≤ (140737488355328 : Nat)) ∧
             ∀ (z59 : List UInt8),
             (z59 = List.take v_43.snd.snd.fst v_43.snd.fst ++ p.getD (↑v_43.fst : Int).toNat (dflt (6 : Nat))) →
             (
              (v_43.snd.snd.fst + (p.getD (↑v_43.fst : Int).toNat (dflt (6 : Nat))).length = z59.length) ∧
              (z59.length ≤ (2200000 : Nat))) ∧
             ∀ (ys_61 : List Msg),
             ∀ (m_62 : Nat),
             ∀ (a_63 : Int),
             (ys_61 = scan z59) →
             (ys_61.length = m_62) →
             (a_63 = lastE z59) →
             ((-1 : Int) ≤ a_63 ∧ a_63 < (↑z59.length : Int)) →
             ∀ (n68 : Int),
             (n68 = (↑m_62 : Int)) →
             (
              ((bif (3 : Int) != (0 : Int) then true else decide (n68 < (↑v_43.snd.snd.snd.fst : Int))) = false) →
              ((0 : Int) ≤ (↑v_43.snd.snd.snd.fst : Int)) ∧
              ((↑v_43.snd.snd.snd.fst : Int) ≤ (↑m_62 : Int))) ∧
             (true = true) ∧
             (
              (true = false) →
              ((0 : Int) ≤ (↑v_43.fst : Int)) ∧
              ((↑v_43.fst : Int) < (↑p.length : Int))) ∧
             (k (AV.bool false) [] []))) ∧
          ((z48.length ≤ (16384 : Nat)) →
          ∀ (b1_73 : Bool),
          ∀ (l1_74 : Bool),
          ∀ (us1_75 : List UInt8),
          ∀ (n1_76 : Nat),
          ∀ (m_77 : Nat),
          ∀ (ys_78 : List Msg),
          ((b1_73, l1_74, List.take n1_76 us1_75) = rfold (v_43.snd.snd.snd.snd.fst, v_43.snd.snd.snd.snd.snd.fst, List.take v_43.snd.snd.snd.snd.snd.snd.snd v_43.snd.snd.snd.snd.snd.snd.fst) z48) →
          (ys_78 = msgs (v_43.snd.snd.snd.snd.fst, v_43.snd.snd.snd.snd.snd.fst, List.take v_43.snd.snd.snd.snd.snd.snd.snd v_43.snd.snd.snd.snd.snd.snd.fst) z48) →
          (ys_78.length = m_77) →
          (n1_76 ≤ us1_75.length ∧ n1_76 ≤ (1043 : Nat)) →
          ((0 : Int) ≤ (↑v_43.fst : Int)) ∧
          ((↑v_43.fst : Int) < (↑p.length : Int)) ∧
          ∀ (n83 : Int),
          (n83 = (↑(p.getD (↑v_43.fst : Int).toNat (dflt (6 : Nat))).length : Int)) →
          ((-9223372036854775808 : Int) ≤ n83 ∧ n83 ≤ (9223372036854775807 : Int)) →
          br (decide (n83 > (16384 : Int)))
           (∀ (n86 : Int),
            (n86 = (↑m_77 : Int)) →
            (k (AV.bool false) [] []))
           (((0 : Int) ≤ (↑v_43.fst : Int)) ∧
            ((↑v_43.fst : Int) < (↑p.length : Int)) ∧
            ((v_43.snd.snd.fst + (p.getD (↑v_43.fst : Int).toNat (dflt (6 : Nat))).length) * (1 : Nat) ≤ (140737488355328 : Nat)) ∧
            ∀ (z87 : List UInt8),
            (z87 = List.take v_43.snd.snd.fst v_43.snd.fst ++ p.getD (↑v_43.fst : Int).toNat (dflt (6 : Nat))) →
            (
             (v_43.snd.snd.fst + (p.getD (↑v_43.fst : Int).toNat (dflt (6 : Nat))).length = z87.length) ∧
             (z87.length ≤ (2200000 : Nat))) ∧
            ∀ (ys_89 : List Msg),
            ∀ (m_90 : Nat),
            ∀ (a_91 : Int),
            (ys_89 = scan z87) →
            (ys_89.length = m_90) →
            (a_91 = lastE z87) →
            ((-1 : Int) ≤ a_91 ∧ a_91 < (↑z87.length : Int)) →
            ∀ (n96 : Int),
            (n96 = (↑m_90 : Int)) →
            (
             ((bif (0 : Int) != (0 : Int) then true else decide (n96 < (↑v_43.snd.snd.snd.fst : Int))) = false) →
             ((0 : Int) ≤ (↑v_43.snd.snd.snd.fst : Int)) ∧
             ((↑v_43.snd.snd.snd.fst : Int) ≤ (↑m_90 : Int))) ∧
            br (bif (0 : Int) != (0 : Int) then true else decide (n96 < (↑v_43.snd.snd.snd.fst : Int)))
             ((true = true) ∧
              (
               (true = false) →
               ((0 : Int) ≤ (↑v_43.fst : Int)) ∧
               ((↑v_43.fst : Int) < (↑p.length : Int))) ∧
              (k (AV.bool false) [] []))
             (∀ (r_100 : Bool),
              (r_100 = true ↔ List.take m_77 (List.drop (0 : Nat) ys_78) = List.take (m_90 - (↑v_43.snd.snd.snd.fst : Int).toNat) (List.drop ((0 : Nat) + (↑v_43.snd.snd.snd.fst : Int).toNat) ys_89)) →
              (
               ((bif false then true else !r_100) = false) →
               ((0 : Int) ≤ (↑v_43.fst : Int)) ∧
               ((↑v_43.fst : Int) < (↑p.length : Int))) ∧
              br (bif bif false then true else !r_100 then true else !{ data := (List.take (p.getD (↑v_43.fst : Int).toNat (dflt (6 : Nat))).length (List.drop (0 : Nat) z48)).toArray : ByteArray }.data.toList == { data := (p.getD (↑v_43.fst : Int).toNat (dflt (6 : Nat))).toArray : ByteArray }.data.toList)
               ((k (AV.bool false) [] []))
               (∀ (n103 : Int),
                (n103 = (↑m_90 : Int)) →
                ((-9223372036854775808 : Int) ≤ n103 ∧ n103 ≤ (9223372036854775807 : Int)) →
                (
                 ∃ (v : Nat × List UInt8 × Nat × Nat × Bool × Bool × List UInt8 × Nat × List UInt8 × Nat),
                 (p = p) ∧
                 ((0 : Nat) = (0 : Nat)) ∧
                 (v_43.snd.snd.fst + (p.getD (↑v_43.fst : Int).toNat (dflt (6 : Nat))).length = v.snd.snd.fst) ∧
                 (n103 = (↑v.snd.snd.snd.fst : Int)) ∧
                 ((↑v_43.fst : Int) = (↑v_43.fst : Int)) ∧
                 ((0 : Nat) = (0 : Nat)) ∧
                 ((p.getD (↑v_43.fst : Int).toNat (dflt (6 : Nat))).length = v.snd.snd.snd.snd.snd.snd.snd.snd.snd) ∧
                 ((0 : Int) = (↑v.fst : Int)) ∧
                 ((0 : Nat) = (0 : Nat)) ∧
                 (n1_76 = v.snd.snd.snd.snd.snd.snd.snd.fst) ∧
                 (b1_73 = v.snd.snd.snd.snd.fst) ∧
                 (l1_74 = v.snd.snd.snd.snd.snd.fst) ∧
                 (true = true) ∧
                 (us1_75 = v.snd.snd.snd.snd.snd.snd.fst) ∧
                 (z87 = v.snd.fst) ∧
                 (z48 = v.snd.snd.snd.snd.snd.snd.snd.snd.fst) ∧
                 (v.fst ≤ v.snd.snd.snd.snd.snd.snd.snd.snd.snd) ∧
                 (v.snd.snd.snd.snd.snd.snd.snd.snd.snd = v.snd.snd.snd.snd.snd.snd.snd.snd.fst.length) ∧
                 (v.snd.snd.fst = v.snd.fst.length) ∧
                 (v.snd.snd.snd.fst ≤ v.snd.fst.length) ∧
                 (
                  (v.snd.snd.snd.snd.snd.snd.snd.fst ≤ v.snd.snd.snd.snd.snd.snd.fst.length) ∧
                  (v.snd.snd.snd.snd.snd.snd.snd.fst ≤ (1043 : Nat))) ∧
                 (SIn p (v_43.fst + (1 : Nat)) v.snd.fst v.snd.snd.snd.fst v.snd.snd.snd.snd.fst v.snd.snd.snd.snd.snd.fst (List.take v.snd.snd.snd.snd.snd.snd.snd.fst v.snd.snd.snd.snd.snd.snd.fst))) ∧
                ∀ (v_106 : Nat × List UInt8 × Nat × Nat × Bool × Bool × List UInt8 × Nat × List UInt8 × Nat),
                (v_106.fst ≤ v_106.snd.snd.snd.snd.snd.snd.snd.snd.snd ∧ v_106.snd.snd.snd.snd.snd.snd.snd.snd.snd = v_106.snd.snd.snd.snd.snd.snd.snd.snd.fst.length ∧ v_106.snd.snd.fst = v_106.snd.fst.length ∧ v_106.snd.snd.snd.fst ≤ v_106.snd.fst.length ∧ (v_106.snd.snd.snd.snd.snd.snd.snd.fst ≤ v_106.snd.snd.snd.snd.snd.snd.fst.length ∧ v_106.snd.snd.snd.snd.snd.snd.snd.fst ≤ (1043 : Nat)) ∧ SIn p (v_43.fst + (1 : Nat)) v_106.snd.fst v_106.snd.snd.snd.fst v_106.snd.snd.snd.snd.fst v_106.snd.snd.snd.snd.snd.fst (List.take v_106.snd.snd.snd.snd.snd.snd.snd.fst v_106.snd.snd.snd.snd.snd.snd.fst)) →
                ∀ (n108 : Int),
                (n108 = (↑v_106.snd.snd.snd.snd.snd.snd.snd.snd.snd : Int)) →
                ((-9223372036854775808 : Int) ≤ n108 ∧ n108 ≤ (9223372036854775807 : Int)) →
                br (decide ((↑v_106.fst : Int) < n108))
                 (((0 : Int) ≤ (↑v_106.fst : Int)) ∧
                  ((↑v_106.fst : Int) < (↑v_106.snd.snd.snd.snd.snd.snd.snd.snd.snd : Int)) ∧
                  ((0 : Nat) + (↑v_106.fst : Int).toNat < v_106.snd.snd.snd.snd.snd.snd.snd.snd.fst.length) ∧
                  ∀ (z111 : List UInt8),
                  (z111 = v_106.snd.snd.snd.snd.snd.snd.snd.snd.fst.set ((0 : Nat) + (↑v_106.fst : Int).toNat) (UInt8.ofNat (Int.toNat (77 : Int)))) →
                  ∀ (n113 : Int),
                  (n113 = IntKind.i64.wrap ((↑v_106.fst : Int) + (1 : Int))) →
                  ((-9223372036854775808 : Int) ≤ n113 ∧ n113 ≤ (9223372036854775807 : Int)) →
                  ∃ (v' : Nat × List UInt8 × Nat × Nat × Bool × Bool × List UInt8 × Nat × List UInt8 × Nat),
                  (p = p) ∧
                  ((0 : Nat) = (0 : Nat)) ∧
                  (v_106.snd.snd.fst = v'.snd.snd.fst) ∧
                  ((↑v_106.snd.snd.snd.fst : Int) = (↑v'.snd.snd.snd.fst : Int)) ∧
                  ((↑v_43.fst : Int) = (↑v_43.fst : Int)) ∧
                  ((0 : Nat) = (0 : Nat)) ∧
                  (v_106.snd.snd.snd.snd.snd.snd.snd.snd.snd = v'.snd.snd.snd.snd.snd.snd.snd.snd.snd) ∧
                  (n113 = (↑v'.fst : Int)) ∧
                  ((0 : Nat) = (0 : Nat)) ∧
                  (v_106.snd.snd.snd.snd.snd.snd.snd.fst = v'.snd.snd.snd.snd.snd.snd.snd.fst) ∧
                  (v_106.snd.snd.snd.snd.fst = v'.snd.snd.snd.snd.fst) ∧
                  (v_106.snd.snd.snd.snd.snd.fst = v'.snd.snd.snd.snd.snd.fst) ∧
                  (true = true) ∧
                  (v_106.snd.snd.snd.snd.snd.snd.fst = v'.snd.snd.snd.snd.snd.snd.fst) ∧
                  (v_106.snd.fst = v'.snd.fst) ∧
                  (z111 = v'.snd.snd.snd.snd.snd.snd.snd.snd.fst) ∧
                  (
                   (v'.fst ≤ v'.snd.snd.snd.snd.snd.snd.snd.snd.snd) ∧
                   (v'.snd.snd.snd.snd.snd.snd.snd.snd.snd = v'.snd.snd.snd.snd.snd.snd.snd.snd.fst.length) ∧
                   (v'.snd.snd.fst = v'.snd.fst.length) ∧
                   (v'.snd.snd.snd.fst ≤ v'.snd.fst.length) ∧
                   (
                    (v'.snd.snd.snd.snd.snd.snd.snd.fst ≤ v'.snd.snd.snd.snd.snd.snd.fst.length) ∧
                    (v'.snd.snd.snd.snd.snd.snd.snd.fst ≤ (1043 : Nat))) ∧
                   (SIn p (v_43.fst + (1 : Nat)) v'.snd.fst v'.snd.snd.snd.fst v'.snd.snd.snd.snd.fst v'.snd.snd.snd.snd.snd.fst (List.take v'.snd.snd.snd.snd.snd.snd.snd.fst v'.snd.snd.snd.snd.snd.snd.fst))) ∧
                  (v'.snd.snd.snd.snd.snd.snd.snd.snd.snd - v'.fst < v_106.snd.snd.snd.snd.snd.snd.snd.snd.snd - v_106.fst))
                 (∀ (n116 : Int),
                  (n116 = IntKind.i64.wrap ((↑v_43.fst : Int) + (1 : Int))) →
                  ((-9223372036854775808 : Int) ≤ n116 ∧ n116 ≤ (9223372036854775807 : Int)) →
                  ∃ (v' : Nat × List UInt8 × Nat × Nat × Bool × Bool × List UInt8 × Nat),
                  (p = p) ∧
                  ((0 : Nat) = (0 : Nat)) ∧
                  (v_106.snd.snd.fst = v'.snd.snd.fst) ∧
                  ((↑v_106.snd.snd.snd.fst : Int) = (↑v'.snd.snd.snd.fst : Int)) ∧
                  (n116 = (↑v'.fst : Int)) ∧
                  ((0 : Nat) = (0 : Nat)) ∧
                  (v_106.snd.snd.snd.snd.snd.snd.snd.fst = v'.snd.snd.snd.snd.snd.snd.snd) ∧
                  (v_106.snd.snd.snd.snd.fst = v'.snd.snd.snd.snd.fst) ∧
                  (v_106.snd.snd.snd.snd.snd.fst = v'.snd.snd.snd.snd.snd.fst) ∧
                  (true = true) ∧
                  (v_106.snd.snd.snd.snd.snd.snd.fst = v'.snd.snd.snd.snd.snd.snd.fst) ∧
                  (v_106.snd.fst = v'.snd.fst) ∧
                  (
                   (v'.fst ≤ p.length) ∧
                   (
                    (p.length ≤ (1048576 : Nat)) ∧
                    (p.flatten.length ≤ (1048576 : Nat))) ∧
                   (v'.snd.snd.fst = v'.snd.fst.length) ∧
                   (v'.snd.snd.snd.fst ≤ v'.snd.fst.length) ∧
                   (
                    (v'.snd.snd.snd.snd.snd.snd.snd ≤ v'.snd.snd.snd.snd.snd.snd.fst.length) ∧
                    (v'.snd.snd.snd.snd.snd.snd.snd ≤ (1043 : Nat))) ∧
                   (SIn p v'.fst v'.snd.fst v'.snd.snd.snd.fst v'.snd.snd.snd.snd.fst v'.snd.snd.snd.snd.snd.fst (List.take v'.snd.snd.snd.snd.snd.snd.snd v'.snd.snd.snd.snd.snd.snd.fst))) ∧
                  (p.length - v'.fst < p.length - v_43.fst)))))))
         ((k (AV.bool true) [] []))))) := by
  refine ⟨?_, ?_⟩
  · -- left
    refine ⟨(Int.toNat (0 : Int), (0 : Int)), ?_⟩
    refine ⟨by first | with_reducible rfl | rfl, ?_⟩ -- b = b
    refine ⟨by first | with_reducible rfl | rfl, ?_⟩ -- p = p
    refine ⟨by first | with_reducible rfl | rfl, ?_⟩ -- (0 : Int) = (0 : Int)
    refine ⟨by show (0 : Int) = (↑(Int.toNat (0 : Int)) : Int); omega, ?_⟩ -- (0 : Int) = (↑(Int.toNat (0 : Int)) : Int)
    refine ⟨by show Int.toNat (0 : Int) ≤ p.length; omega, ?_⟩ -- Int.toNat (0 : Int) ≤ p.length
    refine ⟨by show p.length ≤ (1048576 : Nat); assumption, ?_⟩ -- p.length ≤ (1048576 : Nat)
    refine ⟨by show (0 : Int) ≤ (0 : Int); omega, ?_⟩ -- (0 : Int) ≤ (0 : Int)
    exact by show (0 : Int) ≤ (30000 : Int) * (↑(Int.toNat (0 : Int)) : Int); omega -- (0 : Int) ≤ (30000 : Int) * (↑(Int.toNat (0 : Int)) : Int)
  intro v_1
  intro h1 -- v_1.fst ≤ p.length ∧ p.length ≤ (1048576 : Nat) ∧ (0 : Int) ≤ v_1.snd ∧ v_1.snd ≤ (30000 : Int) * (↑v_1.fst : Int)
  intro n3
  intro q3 -- n3 = (↑p.length : Int)
  intro ⟨l3, u3⟩ -- (-9223372036854775808 : Int) ≤ n3 ∧ n3 ≤ (9223372036854775807 : Int)
  refine brd (fun c2 => ?_) (fun c2 => ?_) -- decide ((↑v_1.fst : Int) < n3)
  · -- yes
    refine ⟨by first | omega | (dsimp only; omega), ?_⟩ -- (0 : Int) ≤ (↑v_1.fst : Int)
    refine ⟨by first | omega | (dsimp only; omega), ?_⟩ -- (↑v_1.fst : Int) < (↑p.length : Int)
    intro n6
    intro q6 -- n6 = (↑(p.getD (↑v_1.fst : Int).toNat (dflt (6 : Nat))).length : Int)
    intro ⟨l6, u6⟩ -- (-9223372036854775808 : Int) ≤ n6 ∧ n6 ≤ (9223372036854775807 : Int)
    intro n9
    intro q9 -- n9 = min n6 (30000 : Int)
    intro ⟨l9, u9⟩ -- (-9223372036854775808 : Int) ≤ n9 ∧ n9 ≤ (9223372036854775807 : Int)
    intro n12
    intro q12 -- n12 = IntKind.i64.wrap (v_1.snd + n9)
    rw [IntKind.wrap_i64] at q12
    intro ⟨l12, u12⟩ -- (-9223372036854775808 : Int) ≤ n12 ∧ n12 ≤ (9223372036854775807 : Int)
    intro n15
    intro q15 -- n15 = IntKind.i64.wrap ((↑v_1.fst : Int) + (1 : Int))
    rw [IntKind.wrap_i64] at q15
    intro ⟨l15, u15⟩ -- (-9223372036854775808 : Int) ≤ n15 ∧ n15 ≤ (9223372036854775807 : Int)
    refine ⟨(n15.toNat, n12), ?_⟩
    refine ⟨by first | with_reducible rfl | rfl, ?_⟩ -- b = b
    refine ⟨by first | with_reducible rfl | rfl, ?_⟩ -- p = p
    refine ⟨by first | with_reducible rfl | rfl, ?_⟩ -- n12 = n12
    refine ⟨by show n15 = (↑n15.toNat : Int); omega, ?_⟩ -- n15 = (↑n15.toNat : Int)
    refine ⟨?_, ?_⟩
    · -- left
      refine ⟨by show n15.toNat ≤ p.length; omega, ?_⟩ -- n15.toNat ≤ p.length
      refine ⟨by show p.length ≤ (1048576 : Nat); assumption, ?_⟩ -- p.length ≤ (1048576 : Nat)
      refine ⟨by show (0 : Int) ≤ n12; omega, ?_⟩ -- (0 : Int) ≤ n12
      exact by show n12 ≤ (30000 : Int) * (↑n15.toNat : Int); omega -- n12 ≤ (30000 : Int) * (↑n15.toNat : Int)
    exact by show p.length - n15.toNat < p.length - v_1.fst; omega -- p.length - n15.toNat < p.length - v_1.fst
  · -- no
    intro n18
    intro q18 -- n18 = (↑b.length : Int)
    intro ⟨l18, u18⟩ -- (-9223372036854775808 : Int) ≤ n18 ∧ n18 ≤ (9223372036854775807 : Int)
    intro n21
    intro q21 -- n21 = (↑p.length : Int)
    refine br_intro (fun c3 => ?_) (fun c3 => ?_) -- bif bif decide (n18 > (20000 : Int)) then true else decide (n21 > (60 : Int)) then true else decide (v_1.snd > (40000 : Int))
    · -- yes
      simp at c3 -- ((20000 : Int) < n18 ∨ (60 : Int) < n21) ∨ (40000 : Int) < v_1.snd
      -- k (AV.bool true) [] []
      exact hk
    · -- no
      simp at c3 -- (n18 ≤ (20000 : Int) ∧ n21 ≤ (60 : Int)) ∧ v_1.snd ≤ (40000 : Int)
      refine ⟨by first | omega | (dsimp only; omega), ?_⟩ -- b.length * (1 : Nat) ≤ (140737488355328 : Nat)
      intro z23
      intro qz23 -- z23 = b
      intro e_25
      intro a_26
      intro ys_27
      intro n_28
      intro h4 -- e_25 = sE (List.take b.length (List.drop (0 : Nat) z23))
      intro h5 -- a_26 = sA (List.take b.length (List.drop (0 : Nat) z23))
      intro h6 -- ys_27 = sO (List.take b.length (List.drop (0 : Nat) z23))
      intro h7 -- ys_27.length = n_28
      intro e_33
      intro a_34
      intro ys_35
      intro n_36
      intro h8 -- e_33 = sE b
      intro h9 -- a_34 = sA b
      intro h10 -- ys_35 = sO b
      intro h11 -- ys_35.length = n_36
      intro r_41
      intro h12 -- r_41 = true ↔ List.take n_28 (List.drop (0 : Nat) ys_27) = List.take n_36 (List.drop (0 : Nat) ys_35)
      refine br_intro (fun c13 => ?_) (fun c13 => ?_) -- bif bif bif !r_41 then true else a_26 != a_34 then true else e_25 != e_33 then true else !{ data := (List.take b.length (List.drop (0 : Nat) z23)).toArray : ByteArray }.data.toList == { data := b.toArray : ByteArray }.data.toList
      · -- yes
        simp at c13 -- ((r_41 = false ∨ ¬a_26 = a_34) ∨ ¬e_25 = e_33) ∨ ¬List.take b.length z23 = b
        -- k (AV.bool false) [] []
        have E : List.take b.length (List.drop 0 z23) = b := by rw [qz23, List.drop_zero, List.take_length]
        rw [E] at h4 h5 h6
        exfalso
        rcases c13 with ((c | c) | c) | c
        · rw [h12.2 (by rw [List.drop_zero, List.drop_zero, ← h7, ← h11, List.take_length, List.take_length, h6, h10])] at c
          cases c
        · exact c (h5.trans h9.symm)
        · exact c (h4.trans h8.symm)
        · exact c (by rw [qz23, List.take_length])
      · -- no
        simp at c13 -- ((r_41 = true ∧ a_26 = a_34) ∧ e_25 = e_33) ∧ List.take b.length z23 = b
        refine ⟨?_, ?_⟩
        · -- left
          refine ⟨(Int.toNat (0 : Int), [], (0 : Nat), Int.toNat (0 : Int), false, false, [], (0 : Nat)), ?_⟩
          refine ⟨by first | with_reducible rfl | rfl, ?_⟩ -- p = p
          refine ⟨by first | with_reducible rfl | rfl, ?_⟩ -- (0 : Nat) = (0 : Nat)
          refine ⟨by first | with_reducible rfl | rfl, ?_⟩ -- (0 : Nat) = (0 : Nat)
          refine ⟨by show (0 : Int) = (↑(Int.toNat (0 : Int)) : Int); omega, ?_⟩ -- (0 : Int) = (↑(Int.toNat (0 : Int)) : Int)
          refine ⟨by show (0 : Int) = (↑(Int.toNat (0 : Int)) : Int); omega, ?_⟩ -- (0 : Int) = (↑(Int.toNat (0 : Int)) : Int)
          refine ⟨by first | with_reducible rfl | rfl, ?_⟩ -- (0 : Nat) = (0 : Nat)
          refine ⟨by first | with_reducible rfl | rfl, ?_⟩ -- (0 : Nat) = (0 : Nat)
          refine ⟨by first | with_reducible rfl | rfl, ?_⟩ -- false = false
          refine ⟨by first | with_reducible rfl | rfl, ?_⟩ -- false = false
          refine ⟨by first | with_reducible rfl | rfl, ?_⟩ -- true = true
          refine ⟨by first | with_reducible rfl | rfl, ?_⟩ -- [] = []
          refine ⟨by first | with_reducible rfl | rfl, ?_⟩ -- [] = []
          refine ⟨by show Int.toNat (0 : Int) ≤ p.length; omega, ?_⟩ -- Int.toNat (0 : Int) ≤ p.length
          refine ⟨by exact ⟨by assumption, by assumption⟩, ?_⟩ -- p.length ≤ (1048576 : Nat) ∧ p.flatten.length ≤ (1048576 : Nat)
          refine ⟨by first | with_reducible rfl | rfl, ?_⟩ -- (0 : Nat) = (0 : Nat)
          refine ⟨by show Int.toNat (0 : Int) ≤ (0 : Nat); omega, ?_⟩ -- Int.toNat (0 : Int) ≤ (0 : Nat)
          refine ⟨by first | omega | (dsimp only; omega), ?_⟩ -- (0 : Nat) ≤ (0 : Nat) ∧ (0 : Nat) ≤ (1043 : Nat)
          -- SIn p (Int.toNat (0 : Int)) [] (Int.toNat (0 : Int)) false false (List.take (0 : Nat) [])
          exact sin_0 p
        intro v_43
        intro h14 -- v_43.fst ≤ p.length ∧ (p.length ≤ (1048576 : Nat) ∧ p.flatten.length ≤ (1048576 : Nat)) ∧ v_43.snd.snd.fst = v_43.snd.fst.length ∧ v_43.snd.snd.snd.fst ≤ v_43.snd.fst.length ∧ (v_43.snd.snd.snd.snd.snd.snd.snd ≤ v_43.snd.snd.snd.snd.snd.snd.fst.length ∧ v_43.snd.snd.snd.snd.snd.snd.snd ≤ (1043 : Nat)) ∧ SIn p v_43.fst v_43.snd.fst v_43.snd.snd.snd.fst v_43.snd.snd.snd.snd.fst v_43.snd.snd.snd.snd.snd.fst (List.take v_43.snd.snd.snd.snd.snd.snd.snd v_43.snd.snd.snd.snd.snd.snd.fst)
        intro n45
        intro q45 -- n45 = (↑p.length : Int)
        intro ⟨l45, u45⟩ -- (-9223372036854775808 : Int) ≤ n45 ∧ n45 ≤ (9223372036854775807 : Int)
        refine brd (fun c15 => ?_) (fun c15 => ?_) -- decide ((↑v_43.fst : Int) < n45)
        · -- yes
          refine ⟨by first | omega | (dsimp only; omega), ?_⟩ -- (0 : Int) ≤ (↑v_43.fst : Int)
          refine ⟨by first | omega | (dsimp only; omega), ?_⟩ -- (↑v_43.fst : Int) < (↑p.length : Int)
          have h16 : (p.getD (↑v_43.fst : Int).toNat (dflt (6 : Nat))).length * (1 : Nat) ≤ (140737488355328 : Nat) := by
            have gf : (p.getD (v_43.fst : Int).toNat (dflt 6)).length ≤ p.flatten.length := get_flat p _
            omega
          refine ⟨h16, ?_⟩
          intro z48
          intro qz48 -- z48 = p.getD (↑v_43.fst : Int).toNat (dflt (6 : Nat))
          refine ⟨?_, ?_⟩
          · -- left
            refine ⟨by first | omega | (dsimp only; omega), ?_⟩ -- v_43.snd.snd.snd.snd.snd.snd.snd ≤ v_43.snd.snd.snd.snd.snd.snd.fst.length ∧ v_43.snd.snd.snd.snd.snd.snd.snd ≤ (1043 : Nat)
            -- (p.getD (↑v_43.fst : Int).toNat (dflt (6 : Nat))).length = z48.length
            rw [qz48]
          refine ⟨?_, ?_⟩
          · -- left
            intro qz48 -- (16384 : Nat) < z48.length
            refine ⟨by first | omega | (dsimp only; omega), ?_⟩ -- (0 : Int) ≤ (↑v_43.fst : Int)
            refine ⟨by first | omega | (dsimp only; omega), ?_⟩ -- (↑v_43.fst : Int) < (↑p.length : Int)
            intro n51
            intro q51 -- n51 = (↑(p.getD (↑v_43.fst : Int).toNat (dflt (6 : Nat))).length : Int)
            intro ⟨l51, u51⟩ -- (-9223372036854775808 : Int) ≤ n51 ∧ n51 ≤ (9223372036854775807 : Int)
            refine brd (fun c17 => ?_) (fun c17 => ?_) -- decide (n51 > (16384 : Int))
            · -- yes
              intro n54
              intro q54 -- n54 = (0 : Int)
              refine br_intro (fun c18 => ?_) (fun c18 => ?_) -- bif (3 : Int) != (3 : Int) then true else n54 != (0 : Int)
              · -- yes
                simp at c18 -- ¬n54 = (0 : Int)
                exfalso; omega
              · -- no
                simp at c18 -- n54 = (0 : Int)
                intro n56
                intro q56 -- n56 = IntKind.i64.wrap ((↑v_43.fst : Int) + (1 : Int))
                rw [IntKind.wrap_i64] at q56
                intro ⟨l56, u56⟩ -- (-9223372036854775808 : Int) ≤ n56 ∧ n56 ≤ (9223372036854775807 : Int)
                refine ⟨(n56.toNat, v_43.snd.fst, v_43.snd.snd.fst, v_43.snd.snd.snd.fst, v_43.snd.snd.snd.snd.fst, v_43.snd.snd.snd.snd.snd.fst, v_43.snd.snd.snd.snd.snd.snd.fst, v_43.snd.snd.snd.snd.snd.snd.snd), ?_⟩
                refine ⟨by first | with_reducible rfl | rfl, ?_⟩ -- p = p
                refine ⟨by first | with_reducible rfl | rfl, ?_⟩ -- (0 : Nat) = (0 : Nat)
                refine ⟨by first | with_reducible rfl | rfl, ?_⟩ -- v_43.snd.snd.fst = v_43.snd.snd.fst
                refine ⟨by first | with_reducible rfl | rfl, ?_⟩ -- (↑v_43.snd.snd.snd.fst : Int) = (↑v_43.snd.snd.snd.fst : Int)
                refine ⟨by show n56 = (↑n56.toNat : Int); omega, ?_⟩ -- n56 = (↑n56.toNat : Int)
                refine ⟨by first | with_reducible rfl | rfl, ?_⟩ -- (0 : Nat) = (0 : Nat)
                refine ⟨by first | with_reducible rfl | rfl, ?_⟩ -- v_43.snd.snd.snd.snd.snd.snd.snd = v_43.snd.snd.snd.snd.snd.snd.snd
                refine ⟨by first | with_reducible rfl | rfl, ?_⟩ -- v_43.snd.snd.snd.snd.fst = v_43.snd.snd.snd.snd.fst
                refine ⟨by first | with_reducible rfl | rfl, ?_⟩ -- v_43.snd.snd.snd.snd.snd.fst = v_43.snd.snd.snd.snd.snd.fst
                refine ⟨by first | with_reducible rfl | rfl, ?_⟩ -- true = true
                refine ⟨by first | with_reducible rfl | rfl, ?_⟩ -- v_43.snd.snd.snd.snd.snd.snd.fst = v_43.snd.snd.snd.snd.snd.snd.fst
                refine ⟨by first | with_reducible rfl | rfl, ?_⟩ -- v_43.snd.fst = v_43.snd.fst
                refine ⟨?_, ?_⟩
                · -- left
                  refine ⟨by show n56.toNat ≤ p.length; omega, ?_⟩ -- n56.toNat ≤ p.length
                  refine ⟨by exact ⟨by assumption, by assumption⟩, ?_⟩ -- p.length ≤ (1048576 : Nat) ∧ p.flatten.length ≤ (1048576 : Nat)
                  refine ⟨by show v_43.snd.snd.fst = v_43.snd.fst.length; omega, ?_⟩ -- v_43.snd.snd.fst = v_43.snd.fst.length
                  refine ⟨by show v_43.snd.snd.snd.fst ≤ v_43.snd.fst.length; omega, ?_⟩ -- v_43.snd.snd.snd.fst ≤ v_43.snd.fst.length
                  refine ⟨by first | omega | (dsimp only; omega), ?_⟩ -- v_43.snd.snd.snd.snd.snd.snd.snd ≤ v_43.snd.snd.snd.snd.snd.snd.fst.length ∧ v_43.snd.snd.snd.snd.snd.snd.snd ≤ (1043 : Nat)
                  -- SIn p n56.toNat v_43.snd.fst v_43.snd.snd.snd.fst v_43.snd.snd.snd.snd.fst v_43.snd.snd.snd.snd.snd.fst (List.take v_43.snd.snd.snd.snd.snd.snd.snd v_43.snd.snd.snd.snd.snd.snd.fst)
                  have e : n51 = ((p.getD v_43.fst []).length : Int) := by rw [q51, Int.toNat_natCast]; rfl
                  exact sin_long h14.2.2.2.2.2 (by omega) (by omega) (by omega)
                exact by show p.length - n56.toNat < p.length - v_43.fst; omega -- p.length - n56.toNat < p.length - v_43.fst
            · -- no
              refine ⟨by first | omega | (dsimp only; omega), ?_⟩ -- (0 : Int) ≤ (↑v_43.fst : Int)
              refine ⟨by first | omega | (dsimp only; omega), ?_⟩ -- (↑v_43.fst : Int) < (↑p.length : Int)
              have h19 : (v_43.snd.snd.fst + (p.getD (↑v_43.fst : Int).toNat (dflt (6 : Nat))).length) * (1 : Nat) ≤ (140737488355328 : Nat) := by
                have gf : (p.getD (v_43.fst : Int).toNat (dflt 6)).length ≤ p.flatten.length := get_flat p _
                have sl := sin_len h14.2.2.2.2.2
                omega
              refine ⟨h19, ?_⟩
              intro z59
              intro qz59 -- z59 = List.take v_43.snd.snd.fst v_43.snd.fst ++ p.getD (↑v_43.fst : Int).toNat (dflt (6 : Nat))
              refine ⟨?_, ?_⟩
              · -- left
                have h20 : v_43.snd.snd.fst + (p.getD (↑v_43.fst : Int).toNat (dflt (6 : Nat))).length = z59.length := by
                  rw [qz59, List.length_append, List.length_take]; omega
                refine ⟨h20, ?_⟩
                -- z59.length ≤ (2200000 : Nat)
                have gf : (p.getD (v_43.fst : Int).toNat (dflt 6)).length ≤ p.flatten.length := get_flat p _
                have sl := sin_len h14.2.2.2.2.2
                rw [qz59, List.length_append, List.length_take]; omega
              intro ys_61
              intro m_62
              intro a_63
              intro h21 -- ys_61 = scan z59
              intro h22 -- ys_61.length = m_62
              intro h23 -- a_63 = lastE z59
              intro ⟨a24, b24⟩ -- (-1 : Int) ≤ a_63 ∧ a_63 < (↑z59.length : Int)
              intro n68
              intro q68 -- n68 = (↑m_62 : Int)
              refine ⟨?_, ?_⟩
              · -- left
                intro q68 -- (bif (3 : Int) != (0 : Int) then true else decide (n68 < (↑v_43.snd.snd.snd.fst : Int))) = false
                simp at q68
              refine ⟨by with_reducible rfl, ?_⟩ -- true = true
              refine ⟨?_, ?_⟩
              · -- left
                intro q68 -- true = false
                simp at q68
              -- k (AV.bool false) [] []
              have zz : z48 = p.getD (v_43.fst : Int).toNat (dflt 6) := by assumption
              have ln := congrArg List.length zz
              exfalso
              omega
          intro q68 -- z48.length ≤ (16384 : Nat)
          intro b1_73
          intro l1_74
          intro us1_75
          intro n1_76
          intro m_77
          intro ys_78
          intro h25 -- (b1_73, l1_74, List.take n1_76 us1_75) = rfold (v_43.snd.snd.snd.snd.fst, v_43.snd.snd.snd.snd.snd.fst, List.take v_43.snd.snd.snd.snd.snd.snd.snd v_43.snd.snd.snd.snd.snd.snd.fst) z48
          intro h26 -- ys_78 = msgs (v_43.snd.snd.snd.snd.fst, v_43.snd.snd.snd.snd.snd.fst, List.take v_43.snd.snd.snd.snd.snd.snd.snd v_43.snd.snd.snd.snd.snd.snd.fst) z48
          intro h27 -- ys_78.length = m_77
          intro ⟨a28, b28⟩ -- n1_76 ≤ us1_75.length ∧ n1_76 ≤ (1043 : Nat)
          refine ⟨by first | omega | (dsimp only; omega), ?_⟩ -- (0 : Int) ≤ (↑v_43.fst : Int)
          refine ⟨by first | omega | (dsimp only; omega), ?_⟩ -- (↑v_43.fst : Int) < (↑p.length : Int)
          intro n83
          intro q83 -- n83 = (↑(p.getD (↑v_43.fst : Int).toNat (dflt (6 : Nat))).length : Int)
          intro ⟨l83, u83⟩ -- (-9223372036854775808 : Int) ≤ n83 ∧ n83 ≤ (9223372036854775807 : Int)
          refine brd (fun c29 => ?_) (fun c29 => ?_) -- decide (n83 > (16384 : Int))
          · -- yes
            intro n86
            intro q86 -- n86 = (↑m_77 : Int)
            -- k (AV.bool false) [] []
            have zz : z48 = p.getD (v_43.fst : Int).toNat (dflt 6) := by assumption
            have ln := congrArg List.length zz
            exfalso
            omega
          · -- no
            refine ⟨by first | omega | (dsimp only; omega), ?_⟩ -- (0 : Int) ≤ (↑v_43.fst : Int)
            refine ⟨by first | omega | (dsimp only; omega), ?_⟩ -- (↑v_43.fst : Int) < (↑p.length : Int)
            have h30 : (v_43.snd.snd.fst + (p.getD (↑v_43.fst : Int).toNat (dflt (6 : Nat))).length) * (1 : Nat) ≤ (140737488355328 : Nat) := by
              have gf : (p.getD (v_43.fst : Int).toNat (dflt 6)).length ≤ p.flatten.length := get_flat p _
              have sl := sin_len h14.2.2.2.2.2
              omega
            refine ⟨h30, ?_⟩
            intro z87
            intro qz87 -- z87 = List.take v_43.snd.snd.fst v_43.snd.fst ++ p.getD (↑v_43.fst : Int).toNat (dflt (6 : Nat))
            refine ⟨?_, ?_⟩
            · -- left
              have h31 : v_43.snd.snd.fst + (p.getD (↑v_43.fst : Int).toNat (dflt (6 : Nat))).length = z87.length := by
                rw [qz87, List.length_append, List.length_take]; omega
              refine ⟨h31, ?_⟩
              -- z87.length ≤ (2200000 : Nat)
              have gf : (p.getD (v_43.fst : Int).toNat (dflt 6)).length ≤ p.flatten.length := get_flat p _
              have sl := sin_len h14.2.2.2.2.2
              rw [qz87, List.length_append, List.length_take]; omega
            intro ys_89
            intro m_90
            intro a_91
            intro h32 -- ys_89 = scan z87
            intro h33 -- ys_89.length = m_90
            intro h34 -- a_91 = lastE z87
            intro ⟨a35, b35⟩ -- (-1 : Int) ≤ a_91 ∧ a_91 < (↑z87.length : Int)
            intro n96
            intro q96 -- n96 = (↑m_90 : Int)
            refine ⟨?_, ?_⟩
            · -- left
              intro q96 -- (bif (0 : Int) != (0 : Int) then true else decide (n96 < (↑v_43.snd.snd.snd.fst : Int))) = false
              simp at q96 -- (↑v_43.snd.snd.snd.fst : Int) ≤ n96
              refine ⟨by first | omega | (dsimp only; omega), ?_⟩ -- (0 : Int) ≤ (↑v_43.snd.snd.snd.fst : Int)
              exact by omega -- (↑v_43.snd.snd.snd.fst : Int) ≤ (↑m_90 : Int)
            refine br_intro (fun c36 => ?_) (fun c36 => ?_) -- bif (0 : Int) != (0 : Int) then true else decide (n96 < (↑v_43.snd.snd.snd.fst : Int))
            · -- yes
              simp at c36 -- n96 < (↑v_43.snd.snd.snd.fst : Int)
              refine ⟨by with_reducible rfl, ?_⟩ -- true = true
              refine ⟨?_, ?_⟩
              · -- left
                intro q96 -- true = false
                simp at q96
              -- k (AV.bool false) [] []
              have ze : z87 = v_43.snd.fst ++ p.getD v_43.fst [] := by rw [qz87, h14.2.2.1, List.take_length, Int.toNat_natCast]; rfl
              have G := sin_got h14.2.2.2.2.2 (x := p.getD v_43.fst [])
              rw [← ze, ← h32] at G
              exfalso
              omega
            · -- no
              simp at c36 -- (↑v_43.snd.snd.snd.fst : Int) ≤ n96
              intro r_100
              intro h37 -- r_100 = true ↔ List.take m_77 (List.drop (0 : Nat) ys_78) = List.take (m_90 - (↑v_43.snd.snd.snd.fst : Int).toNat) (List.drop ((0 : Nat) + (↑v_43.snd.snd.snd.fst : Int).toNat) ys_89)
              refine ⟨?_, ?_⟩
              · -- left
                intro h38 -- (bif false then true else !r_100) = false
                simp at h38 -- r_100 = true
                refine ⟨by first | omega | (dsimp only; omega), ?_⟩ -- (0 : Int) ≤ (↑v_43.fst : Int)
                exact by omega -- (↑v_43.fst : Int) < (↑p.length : Int)
              refine br_intro (fun c39 => ?_) (fun c39 => ?_) -- bif bif false then true else !r_100 then true else !{ data := (List.take (p.getD (↑v_43.fst : Int).toNat (dflt (6 : Nat))).length (List.drop (0 : Nat) z48)).toArray : ByteArray }.data.toList == { data := (p.getD (↑v_43.fst : Int).toNat (dflt (6 : Nat))).toArray : ByteArray }.data.toList
              · -- yes
                simp at c39 -- r_100 = false ∨ ¬List.take (p[v_43.fst]?.getD (dflt (6 : Nat))).length z48 = p[v_43.fst]?.getD (dflt (6 : Nat))
                -- k (AV.bool false) [] []
                have ze : z87 = v_43.snd.fst ++ p.getD v_43.fst [] := by rw [qz87, h14.2.2.1, List.take_length, Int.toNat_natCast]; rfl
                have G := sin_got h14.2.2.2.2.2 (x := p.getD v_43.fst [])
                rw [← ze, ← h32] at G
                have zz : z48 = p.getD (v_43.fst : Int).toNat (dflt 6) := by assumption
                have zw : z48 = p.getD v_43.fst [] := by rw [zz, Int.toNat_natCast]; rfl
                exfalso
                rcases c39 with c | c
                · rw [h37.2 ?_] at c
                  · cases c
                  · rw [Int.toNat_natCast, Nat.zero_add, G.2, List.drop_zero, ← h27, List.take_length, h26, zw]
                    exact (List.take_of_length_le (by rw [← G.2, List.length_drop, h33]; exact Nat.le_refl _)).symm
                · exact c (by rw [zw, ← List.getD_eq_getElem?_getD]; exact List.take_length)
              · -- no
                simp at c39 -- r_100 = true ∧ List.take (p[v_43.fst]?.getD (dflt (6 : Nat))).length z48 = p[v_43.fst]?.getD (dflt (6 : Nat))
                intro n103
                intro q103 -- n103 = (↑m_90 : Int)
                intro ⟨l103, u103⟩ -- (-9223372036854775808 : Int) ≤ n103 ∧ n103 ≤ (9223372036854775807 : Int)
                refine ⟨?_, ?_⟩
                · -- left
                  refine ⟨(Int.toNat (0 : Int), z87, v_43.snd.snd.fst + (p.getD (↑v_43.fst : Int).toNat (dflt (6 : Nat))).length, n103.toNat, b1_73, l1_74, us1_75, n1_76, z48, (p.getD (↑v_43.fst : Int).toNat (dflt (6 : Nat))).length), ?_⟩
                  refine ⟨by first | with_reducible rfl | rfl, ?_⟩ -- p = p
                  refine ⟨by first | with_reducible rfl | rfl, ?_⟩ -- (0 : Nat) = (0 : Nat)
                  refine ⟨by first | with_reducible rfl | rfl, ?_⟩ -- v_43.snd.snd.fst + (p.getD (↑v_43.fst : Int).toNat (dflt (6 : Nat))).length = v_43.snd.snd.fst + (p.getD (↑v_43.fst : Int).toNat (dflt (6 : Nat))).length
                  refine ⟨by show n103 = (↑n103.toNat : Int); omega, ?_⟩ -- n103 = (↑n103.toNat : Int)
                  refine ⟨by first | with_reducible rfl | rfl, ?_⟩ -- (↑v_43.fst : Int) = (↑v_43.fst : Int)
                  refine ⟨by first | with_reducible rfl | rfl, ?_⟩ -- (0 : Nat) = (0 : Nat)
                  refine ⟨by first | with_reducible rfl | rfl, ?_⟩ -- (p.getD (↑v_43.fst : Int).toNat (dflt (6 : Nat))).length = (p.getD (↑v_43.fst : Int).toNat (dflt (6 : Nat))).length
                  refine ⟨by show (0 : Int) = (↑(Int.toNat (0 : Int)) : Int); omega, ?_⟩ -- (0 : Int) = (↑(Int.toNat (0 : Int)) : Int)
                  refine ⟨by first | with_reducible rfl | rfl, ?_⟩ -- (0 : Nat) = (0 : Nat)
                  refine ⟨by first | with_reducible rfl | rfl, ?_⟩ -- n1_76 = n1_76
                  refine ⟨by first | with_reducible rfl | rfl, ?_⟩ -- b1_73 = b1_73
                  refine ⟨by first | with_reducible rfl | rfl, ?_⟩ -- l1_74 = l1_74
                  refine ⟨by first | with_reducible rfl | rfl, ?_⟩ -- true = true
                  refine ⟨by first | with_reducible rfl | rfl, ?_⟩ -- us1_75 = us1_75
                  refine ⟨by first | with_reducible rfl | rfl, ?_⟩ -- z87 = z87
                  refine ⟨by first | with_reducible rfl | rfl, ?_⟩ -- z48 = z48
                  refine ⟨by show Int.toNat (0 : Int) ≤ (p.getD (↑v_43.fst : Int).toNat (dflt (6 : Nat))).length; omega, ?_⟩ -- Int.toNat (0 : Int) ≤ (p.getD (↑v_43.fst : Int).toNat (dflt (6 : Nat))).length
                  have h40 : (p.getD (↑v_43.fst : Int).toNat (dflt (6 : Nat))).length = z48.length := by
                    have zz : z48 = p.getD (v_43.fst : Int).toNat (dflt 6) := by assumption
                    have ln := congrArg List.length zz
                    omega
                  refine ⟨h40, ?_⟩
                  have h41 : v_43.snd.snd.fst + (p.getD (↑v_43.fst : Int).toNat (dflt (6 : Nat))).length = z87.length := by
                    rw [qz87, List.length_append, List.length_take]; omega
                  refine ⟨h41, ?_⟩
                  have h42 : n103.toNat ≤ z87.length := by
                    have := scan_len z87
                    rw [← h32] at this
                    omega
                  refine ⟨h42, ?_⟩
                  refine ⟨by exact ⟨by assumption, by assumption⟩, ?_⟩ -- n1_76 ≤ us1_75.length ∧ n1_76 ≤ (1043 : Nat)
                  -- SIn p (v_43.fst + (1 : Nat)) z87 n103.toNat b1_73 l1_74 (List.take n1_76 us1_75)
                  have ze : z87 = v_43.snd.fst ++ p.getD v_43.fst [] := by rw [qz87, h14.2.2.1, List.take_length, Int.toNat_natCast]; rfl
                  have zz : z48 = p.getD (v_43.fst : Int).toNat (dflt 6) := by assumption
                  have zw : z48 = p.getD v_43.fst [] := by rw [zz, Int.toNat_natCast]; rfl
                  have ln := congrArg List.length zz
                  rw [zw] at h25
                  exact sin_step h14.2.2.2.2.2 (by omega) rfl (by rw [← zw]; omega) ze h25 (show n103.toNat = (scan z87).length by rw [← h32]; omega)
                intro v_106
                intro h43 -- v_106.fst ≤ v_106.snd.snd.snd.snd.snd.snd.snd.snd.snd ∧ v_106.snd.snd.snd.snd.snd.snd.snd.snd.snd = v_106.snd.snd.snd.snd.snd.snd.snd.snd.fst.length ∧ v_106.snd.snd.fst = v_106.snd.fst.length ∧ v_106.snd.snd.snd.fst ≤ v_106.snd.fst.length ∧ (v_106.snd.snd.snd.snd.snd.snd.snd.fst ≤ v_106.snd.snd.snd.snd.snd.snd.fst.length ∧ v_106.snd.snd.snd.snd.snd.snd.snd.fst ≤ (1043 : Nat)) ∧ SIn p (v_43.fst + (1 : Nat)) v_106.snd.fst v_106.snd.snd.snd.fst v_106.snd.snd.snd.snd.fst v_106.snd.snd.snd.snd.snd.fst (List.take v_106.snd.snd.snd.snd.snd.snd.snd.fst v_106.snd.snd.snd.snd.snd.snd.fst)
                intro n108
                intro q108 -- n108 = (↑v_106.snd.snd.snd.snd.snd.snd.snd.snd.snd : Int)
                intro ⟨l108, u108⟩ -- (-9223372036854775808 : Int) ≤ n108 ∧ n108 ≤ (9223372036854775807 : Int)
                refine brd (fun c44 => ?_) (fun c44 => ?_) -- decide ((↑v_106.fst : Int) < n108)
                · -- yes
                  refine ⟨by first | omega | (dsimp only; omega), ?_⟩ -- (0 : Int) ≤ (↑v_106.fst : Int)
                  refine ⟨by first | omega | (dsimp only; omega), ?_⟩ -- (↑v_106.fst : Int) < (↑v_106.snd.snd.snd.snd.snd.snd.snd.snd.snd : Int)
                  refine ⟨by first | omega | (dsimp only; omega), ?_⟩ -- (0 : Nat) + (↑v_106.fst : Int).toNat < v_106.snd.snd.snd.snd.snd.snd.snd.snd.fst.length
                  intro z111
                  intro qz111 -- z111 = v_106.snd.snd.snd.snd.snd.snd.snd.snd.fst.set ((0 : Nat) + (↑v_106.fst : Int).toNat) (UInt8.ofNat (Int.toNat (77 : Int)))
                  intro n113
                  intro q113 -- n113 = IntKind.i64.wrap ((↑v_106.fst : Int) + (1 : Int))
                  rw [IntKind.wrap_i64] at q113
                  intro ⟨l113, u113⟩ -- (-9223372036854775808 : Int) ≤ n113 ∧ n113 ≤ (9223372036854775807 : Int)
                  refine ⟨(n113.toNat, v_106.snd.fst, v_106.snd.snd.fst, v_106.snd.snd.snd.fst, v_106.snd.snd.snd.snd.fst, v_106.snd.snd.snd.snd.snd.fst, v_106.snd.snd.snd.snd.snd.snd.fst, v_106.snd.snd.snd.snd.snd.snd.snd.fst, z111, v_106.snd.snd.snd.snd.snd.snd.snd.snd.snd), ?_⟩
                  refine ⟨by first | with_reducible rfl | rfl, ?_⟩ -- p = p
                  refine ⟨by first | with_reducible rfl | rfl, ?_⟩ -- (0 : Nat) = (0 : Nat)
                  refine ⟨by first | with_reducible rfl | rfl, ?_⟩ -- v_106.snd.snd.fst = v_106.snd.snd.fst
                  refine ⟨by first | with_reducible rfl | rfl, ?_⟩ -- (↑v_106.snd.snd.snd.fst : Int) = (↑v_106.snd.snd.snd.fst : Int)
                  refine ⟨by first | with_reducible rfl | rfl, ?_⟩ -- (↑v_43.fst : Int) = (↑v_43.fst : Int)
                  refine ⟨by first | with_reducible rfl | rfl, ?_⟩ -- (0 : Nat) = (0 : Nat)
                  refine ⟨by first | with_reducible rfl | rfl, ?_⟩ -- v_106.snd.snd.snd.snd.snd.snd.snd.snd.snd = v_106.snd.snd.snd.snd.snd.snd.snd.snd.snd
                  refine ⟨by show n113 = (↑n113.toNat : Int); omega, ?_⟩ -- n113 = (↑n113.toNat : Int)
                  refine ⟨by first | with_reducible rfl | rfl, ?_⟩ -- (0 : Nat) = (0 : Nat)
                  refine ⟨by first | with_reducible rfl | rfl, ?_⟩ -- v_106.snd.snd.snd.snd.snd.snd.snd.fst = v_106.snd.snd.snd.snd.snd.snd.snd.fst
                  refine ⟨by first | with_reducible rfl | rfl, ?_⟩ -- v_106.snd.snd.snd.snd.fst = v_106.snd.snd.snd.snd.fst
                  refine ⟨by first | with_reducible rfl | rfl, ?_⟩ -- v_106.snd.snd.snd.snd.snd.fst = v_106.snd.snd.snd.snd.snd.fst
                  refine ⟨by first | with_reducible rfl | rfl, ?_⟩ -- true = true
                  refine ⟨by first | with_reducible rfl | rfl, ?_⟩ -- v_106.snd.snd.snd.snd.snd.snd.fst = v_106.snd.snd.snd.snd.snd.snd.fst
                  refine ⟨by first | with_reducible rfl | rfl, ?_⟩ -- v_106.snd.fst = v_106.snd.fst
                  refine ⟨by first | with_reducible rfl | rfl, ?_⟩ -- z111 = z111
                  refine ⟨?_, ?_⟩
                  · -- left
                    refine ⟨by show n113.toNat ≤ v_106.snd.snd.snd.snd.snd.snd.snd.snd.snd; omega, ?_⟩ -- n113.toNat ≤ v_106.snd.snd.snd.snd.snd.snd.snd.snd.snd
                    have h45 : v_106.snd.snd.snd.snd.snd.snd.snd.snd.snd = z111.length := by
                      rw [qz111, List.length_set]; exact h43.2.1
                    refine ⟨h45, ?_⟩
                    refine ⟨by show v_106.snd.snd.fst = v_106.snd.fst.length; omega, ?_⟩ -- v_106.snd.snd.fst = v_106.snd.fst.length
                    refine ⟨by show v_106.snd.snd.snd.fst ≤ v_106.snd.fst.length; omega, ?_⟩ -- v_106.snd.snd.snd.fst ≤ v_106.snd.fst.length
                    refine ⟨by first | omega | (dsimp only; omega), ?_⟩ -- v_106.snd.snd.snd.snd.snd.snd.snd.fst ≤ v_106.snd.snd.snd.snd.snd.snd.fst.length ∧ v_106.snd.snd.snd.snd.snd.snd.snd.fst ≤ (1043 : Nat)
                    -- SIn p (v_43.fst + (1 : Nat)) v_106.snd.fst v_106.snd.snd.snd.fst v_106.snd.snd.snd.snd.fst v_106.snd.snd.snd.snd.snd.fst (List.take v_106.snd.snd.snd.snd.snd.snd.snd.fst v_106.snd.snd.snd.snd.snd.snd.fst)
                    exact h43.2.2.2.2.2
                  exact by show v_106.snd.snd.snd.snd.snd.snd.snd.snd.snd - n113.toNat < v_106.snd.snd.snd.snd.snd.snd.snd.snd.snd - v_106.fst; omega -- v_106.snd.snd.snd.snd.snd.snd.snd.snd.snd - n113.toNat < v_106.snd.snd.snd.snd.snd.snd.snd.snd.snd - v_106.fst
                · -- no
                  intro n116
                  intro q116 -- n116 = IntKind.i64.wrap ((↑v_43.fst : Int) + (1 : Int))
                  rw [IntKind.wrap_i64] at q116
                  intro ⟨l116, u116⟩ -- (-9223372036854775808 : Int) ≤ n116 ∧ n116 ≤ (9223372036854775807 : Int)
                  refine ⟨(n116.toNat, v_106.snd.fst, v_106.snd.snd.fst, v_106.snd.snd.snd.fst, v_106.snd.snd.snd.snd.fst, v_106.snd.snd.snd.snd.snd.fst, v_106.snd.snd.snd.snd.snd.snd.fst, v_106.snd.snd.snd.snd.snd.snd.snd.fst), ?_⟩
                  refine ⟨by first | with_reducible rfl | rfl, ?_⟩ -- p = p
                  refine ⟨by first | with_reducible rfl | rfl, ?_⟩ -- (0 : Nat) = (0 : Nat)
                  refine ⟨by first | with_reducible rfl | rfl, ?_⟩ -- v_106.snd.snd.fst = v_106.snd.snd.fst
                  refine ⟨by first | with_reducible rfl | rfl, ?_⟩ -- (↑v_106.snd.snd.snd.fst : Int) = (↑v_106.snd.snd.snd.fst : Int)
                  refine ⟨by show n116 = (↑n116.toNat : Int); omega, ?_⟩ -- n116 = (↑n116.toNat : Int)
                  refine ⟨by first | with_reducible rfl | rfl, ?_⟩ -- (0 : Nat) = (0 : Nat)
                  refine ⟨by first | with_reducible rfl | rfl, ?_⟩ -- v_106.snd.snd.snd.snd.snd.snd.snd.fst = v_106.snd.snd.snd.snd.snd.snd.snd.fst
                  refine ⟨by first | with_reducible rfl | rfl, ?_⟩ -- v_106.snd.snd.snd.snd.fst = v_106.snd.snd.snd.snd.fst
                  refine ⟨by first | with_reducible rfl | rfl, ?_⟩ -- v_106.snd.snd.snd.snd.snd.fst = v_106.snd.snd.snd.snd.snd.fst
                  refine ⟨by first | with_reducible rfl | rfl, ?_⟩ -- true = true
                  refine ⟨by first | with_reducible rfl | rfl, ?_⟩ -- v_106.snd.snd.snd.snd.snd.snd.fst = v_106.snd.snd.snd.snd.snd.snd.fst
                  refine ⟨by first | with_reducible rfl | rfl, ?_⟩ -- v_106.snd.fst = v_106.snd.fst
                  refine ⟨?_, ?_⟩
                  · -- left
                    refine ⟨by show n116.toNat ≤ p.length; omega, ?_⟩ -- n116.toNat ≤ p.length
                    refine ⟨by exact ⟨by assumption, by assumption⟩, ?_⟩ -- p.length ≤ (1048576 : Nat) ∧ p.flatten.length ≤ (1048576 : Nat)
                    refine ⟨by show v_106.snd.snd.fst = v_106.snd.fst.length; omega, ?_⟩ -- v_106.snd.snd.fst = v_106.snd.fst.length
                    refine ⟨by show v_106.snd.snd.snd.fst ≤ v_106.snd.fst.length; omega, ?_⟩ -- v_106.snd.snd.snd.fst ≤ v_106.snd.fst.length
                    refine ⟨by first | omega | (dsimp only; omega), ?_⟩ -- v_106.snd.snd.snd.snd.snd.snd.snd.fst ≤ v_106.snd.snd.snd.snd.snd.snd.fst.length ∧ v_106.snd.snd.snd.snd.snd.snd.snd.fst ≤ (1043 : Nat)
                    -- SIn p n116.toNat v_106.snd.fst v_106.snd.snd.snd.fst v_106.snd.snd.snd.snd.fst v_106.snd.snd.snd.snd.snd.fst (List.take v_106.snd.snd.snd.snd.snd.snd.snd.fst v_106.snd.snd.snd.snd.snd.snd.fst)
                    rw [show n116.toNat = v_43.fst + 1 by omega]; exact h43.2.2.2.2.2
                  exact by show p.length - n116.toNat < p.length - v_43.fst; omega -- p.length - n116.toNat < p.length - v_43.fst
        · -- no
          -- k (AV.bool true) [] []
          exact hk

theorem frameScans_ok : Holds Try.prog 4 lawScans := by
  refine fn_sound (env := mkEnv V4) (tab_ok V4_ok) Try.func4 Try.call4 fun args k h => ?_
  match args, h with
  | [.sl 0 b, .sl 6 p], h => exact ⟨by kernel_rfl, scansLoops b p, fun _ _ => none, .cast (by kernel_rfl) (frameScans_vc b p h.1 h.2.1 h.2.2.1 k h.2.2.2)⟩
end Go.Proofs.Ytilbglkpbjamfaa
namespace Go.Proofs.Ytilbglkpbjamfaa
open Go.ChangeShapes Go.WideShapes Go.ChangeAt Go.RowKit Go.Eng
set_option linter.unusedVariables false

theorem ownC : ownKnob Try.prog.godebug = none := by kernel_rfl
theorem laidC : laidOutB Try.prog = true := by kernel_rfl

theorem oneLeC {H : Type} (d : DataW H) : 1 ≤ Rows.uptoBulk d := by
  cases d with
  | lit l => cases l <;> simp [Rows.uptoBulk]
  | _ => simp [Rows.uptoBulk]
theorem sumLeC {H : Type} {α : Type} {Z : DataW H → α → Prop} (f : α → Nat) (hf : ∀ d x, Z d x → f x ≤ Rows.uptoBulk d) : ∀ (el : List (DataW H)) (xs : List α), ZAll Z el xs → (xs.map f).sum ≤ Rows.uptoBulkAll el
  | [], [], _ => by simp [Rows.uptoBulkAll]
  | d :: el, x :: xs, h => by
    have h1 := hf d x h.1
    have h2 := sumLeC f hf el xs h.2
    simp only [List.map_cons, List.sum_cons, Rows.uptoBulkAll]; omega
  | [], _ :: _, h => h.elim
  | _ :: _, [], h => h.elim
theorem sumBulkC {H : Type} {α : Type} {Z : DataW H → α → Prop} (f : α → Nat) (hf : ∀ d x, Z d x → f x ≤ Rows.uptoBulk d) {d : DataW H} {xs : List α} (h : DSz Z d xs) : (xs.map f).sum ≤ Rows.uptoBulk d := by
  rcases h with rfl | ⟨el, sp, rfl, h⟩
  · simp
  · have := sumLeC f hf el xs h
    simp only [Rows.uptoBulk]; omega
theorem onesLenC {α : Type} (xs : List α) : (xs.map fun _ => 1).sum = xs.length := by
  induction xs with
  | nil => rfl
  | cons x r ih => simp only [List.map_cons, List.sum_cons, List.length_cons, ih]; omega
theorem bulkLenC {H : Type} {α : Type} {Z : DataW H → α → Prop} {d : DataW H} {xs : List α} (h : DSz Z d xs) : xs.length ≤ Rows.uptoBulk d := by
  have := sumBulkC (fun _ : α => 1) (fun d _ _ => oneLeC d) h
  rwa [onesLenC] at this
theorem bulkTotC {H : Type} {d : DataW H} {xs : List (List UInt8)} (h : DSz (DSz Z0) d xs) : xs.flatten.length ≤ Rows.uptoBulk d := by
  have := sumBulkC List.length (fun d x h => bulkLenC h) h
  rwa [← List.length_flatten] at this
theorem bulkMsgC {H : Type} {d : DataW H} {xs : List Msg} (h : DSz ZMsg d xs) : (xs.map fun m => m.body.length).sum ≤ Rows.uptoBulk d :=
  sumBulkC (fun m : Msg => m.body.length) (fun d x h => by
    obtain ⟨d0, d1, d2, rfl, h⟩ := h
    have := bulkLenC h
    simp only [Rows.uptoBulk, Rows.uptoBulkAll]; omega) h

set_option maxHeartbeats 800000 in
set_option maxRecDepth 100000 in
theorem frameScansContract (H : Type) (enc : TypeId × Value → H) (W : World) (base : Nat) (args : Array Value) (ds gs : List (DataW H)) (before : List MemPlace)
    (hval0 : ∀ (j : Nat) t v, Try.f4.params[j]? = some t → args[j]? = some v → Value.okWide Try.prog W .any base t v)
    (hW : DataW.Whole enc Try.prog Try.f4.params.toList Rows.frameScansSpec.vars false W args.toList ds gs before) (hk : Rows.uptoSmall H (ds ++ gs) = true) :
    Calls Try.prog 4 args W fun e W' => ∃ v, e = .returned v ∧ Rows.frameScansSpec.post enc Try.prog Try.f4 false true false false W args v W' := by
  have hval : ∀ (j : Nat) t v, Try.f4.params[j]? = some t → args[j]? = some v → Value.okWide Try.prog W .any base t v := hval0
  have hW' := hW
  obtain ⟨p, q, hA0, hV, rfl, hfz, hnd⟩ := hW
  have hA : DataW.TrodAll enc Try.prog W 0 (fun _ => true) true Try.f4.params.toList args.toList ds p := hA0
  rw [Try.params4] at hA hval
  obtain ⟨v0, vs0, d0, ds0, p0, q0, hargs, rfl, rfl, h0, r0⟩ := trodAll_cons hA
  obtain ⟨v1, vs1, d1, ds1, p1, q1, rfl, rfl, rfl, h1, r1⟩ := trodAll_cons r0
  obtain ⟨rfl, rfl, rfl⟩ := trodAll_nil r1
  obtain rfl : args = #[v0, v1] := by cases args; simp_all
  obtain ⟨rfl, rfl⟩ := trodVars_none hV
  have k0 := h0
  have lt0 : ∀ x ∈ p0, x.block < W.heap.size := by obtain ⟨m, hm⟩ := k0; exact DataW.trod_lt m _ _ _ hm
  obtain ⟨xs0, w0, z0⟩ : ∃ xs : List (ty 0), Rep W (· < W.heap.size) noIds v0 (.sl 0 xs) ∧ DSz Z0 d0 xs := by
    obtain ⟨fuel, hf⟩ := h0
    exact rep_in (c := 0) (by decide) Try.underlying23 (by kernel_rfl) (cells_u8 Try.underlying5) (hval 0 23 v0 rfl rfl) hf
  have k1 := h1
  have lt1 : ∀ x ∈ p1, x.block < W.heap.size := by obtain ⟨m, hm⟩ := k1; exact DataW.trod_lt m _ _ _ hm
  obtain ⟨xs1, w1, z1⟩ : ∃ xs : List (ty 6), Rep W (· < W.heap.size) noIds v1 (.sl 6 xs) ∧ DSz (DSz Z0) d1 xs := by
    obtain ⟨fuel, hf⟩ := h1
    exact rep_in (c := 6) (by decide) Try.underlying40 (by kernel_rfl) (cells_bytes Try.underlying23 Try.underlying5 (by kernel_rfl)) (hval 1 40 v1 rfl rfl) hf
  clear hA0 hval0
  have hb := of_decide_eq_true hk
  simp only [List.append_nil, Rows.uptoBulkAll] at hb
  have hz0 : xs0.length ≤ 1048576 := by have := bulkLenC z0; omega
  have hz1 : xs1.length ≤ 1048576 := by have := bulkLenC z1; omega
  have ht1 : xs1.flatten.length ≤ 1048576 := by have := bulkTotC z1; omega
  refine (calls_of_holds frameScans_ok Try.call4 (w := W) (vals := #[v0, v1]) (args := [.sl 0 xs0, .sl 6 xs1]) rfl (fun j v hj => ?_) ⟨hz0, hz1, ht1, rfl⟩).mono fun e W' ⟨he, bel⟩ => ?_
  · rcases j with _ | _ | j
    · simp at hj; subst hj; exact w0
    · simp at hj; subst hj; exact w1
    · simp at hj
  subst he
  exact ⟨_, rfl, _, _, _, [], _, [], hW', trodAll_mk1 (shut_bool Try.underlying4 _), (trodAll_cons_mk (Below.trod laidC (by kernel_rfl) (of_decide_eq_true (by kernel_rfl)) k0 bel lt0) (trodAll_cons_mk (Below.trod laidC (by kernel_rfl) (of_decide_eq_true (by kernel_rfl)) k1 bel lt1) trodAll_mk0)), rfl, bel.frame _, fun h => by cases h⟩

set_option maxRecDepth 100000 in
theorem frameScansLifted (os : Os) (started : os.Started) (H : Type) (enc : TypeId × Value → H) (F : Stop.Interp) :
    ReturnsInHanded {} Try.checked os 4 .any ((Rows.OpenSpec.upto Rows.frameScansSpec).pre6 enc Try.prog Try.f4 Rows.frameScansUptoRow.domain false) (((Rows.OpenSpec.upto Rows.frameScansSpec).at F).post enc Try.prog Try.f4 false true false false) := by
  refine returnsInHanded_of_cond (C := Try.checked) (s := Rows.OpenSpec.upto Rows.frameScansSpec) (k := Rows.uptoSmall) rfl ownC started (by kernel_rfl) Try.func4
    (OpenSpec.witness (enc := enc) (C := Try.checked) (s := Rows.OpenSpec.upto Rows.frameScansSpec) (k := Rows.uptoSmall) rfl false ⟨#[], #[.slice none 0 0, .slice none 0 0], []⟩ 8 (by kernel_rfl) (by kernel_rfl) (by kernel_rfl)
      (x := ([.nil, .nil], [], [])) (by kernel_rfl) rfl (by kernel_rfl)) ?_
  intro W base args ds gs before hval hW _ hk _
  exact frameScansContract H enc W base args ds gs before hval hW hk

theorem frameScans_said : Rows.FrameScansUptoSaid :=
  OpenClaim.holds_of_cond 4 Try.f4 rfl rfl rfl rfl rfl rfl rfl ⟨rfl, rfl, rfl, rfl, rfl⟩ rfl rfl rfl rfl rfl (by kernel_rfl) Try.func4 (by kernel_rfl)
    (of_decide_eq_true (by kernel_rfl)) (by unfold Func.isWrapper; first | (rw [if_pos (by decide +kernel)]; kernel_rfl) | (rw [if_neg (by decide +kernel)]; exact ⟨rfl, rfl⟩))
    (fun os started H enc _ F => frameScansLifted os started H enc F)
#print axioms frameScans_said
end Go.Proofs.Ytilbglkpbjamfaa


