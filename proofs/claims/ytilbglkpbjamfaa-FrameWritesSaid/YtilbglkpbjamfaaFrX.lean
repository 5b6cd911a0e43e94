/- FrameWrites: messages are written, opened and stuffed as the document says. Any message, any bytes. No conditions beyond the row's own. -/
import Derived.Test.YtilbglkpbjamfaaFrW
import Derived.Test.YtilbglkpbjamfaaRows
namespace Go.Proofs.Ytilbglkpbjamfaa
open Go Go.Eng Go.Rw Go.Fr Go.Proofs
set_option linter.unusedVariables false
set_option maxHeartbeats 2000000 in
theorem frameWrites_vc (kd : Int) (kd0 : (0 : Int) ≤ kd) (kd1 : kd ≤ (255 : Int)) (sq : Int) (sq0 : (0 : Int) ≤ sq) (sq1 : sq ≤ (4294967295 : Int)) (bo : List UInt8) (b : List UInt8) (k : AV → List (Option Blk) → List Blk → Prop) (hk : k (AV.bool true) [] []) :
  ∀ (n1 : Int),
  (n1 = (↑bo.length : Int)) →
  ((-9223372036854775808 : Int) ≤ n1 ∧ n1 ≤ (9223372036854775807 : Int)) →
  ∀ (n4 : Int),
  (n4 = (↑b.length : Int)) →
  br (bif decide (n1 > (20000 : Int)) then true else decide (n4 > (20000 : Int)))
   ((k (AV.bool true) [] []))
   ((b.length * (1 : Nat) ≤ (140737488355328 : Nat)) ∧
    ∀ (z6 : List UInt8),
    (z6 = b) →
    (
     ((0 : Int) ≤ kd) ∧
     (kd ≤ (255 : Int))) ∧
    (
     ((0 : Int) ≤ sq) ∧
     (sq ≤ (4294967295 : Int))) ∧
    ∀ (e_8 : Int),
    ∀ (ys_9 : List UInt8),
    ∀ (n_10 : Nat),
    (e_8 = iE bo) →
    (ys_9 = iO kd sq bo) →
    (ys_9.length = n_10) →
    (
     ((0 : Int) ≤ kd) ∧
     (kd ≤ (255 : Int))) ∧
    (
     ((0 : Int) ≤ sq) ∧
     (sq ≤ (4294967295 : Int))) ∧
    ∀ (e_14 : Int),
    ∀ (ys_15 : List UInt8),
    ∀ (n_16 : Nat),
    (e_14 = iE bo) →
    (ys_15 = iO kd sq bo) →
    (ys_15.length = n_16) →
    (
     ((0 : Int) ≤ kd) ∧
     (kd ≤ (255 : Int))) ∧
    (
     ((0 : Int) ≤ sq) ∧
     (sq ≤ (4294967295 : Int))) ∧
    ∀ (e_20 : Int),
    ∀ (ys_21 : List UInt8),
    ∀ (n_22 : Nat),
    (e_20 = wE bo) →
    (ys_21 = wO kd sq bo) →
    (ys_21.length = n_22) →
    (
     ((0 : Int) ≤ kd) ∧
     (kd ≤ (255 : Int))) ∧
    (
     ((0 : Int) ≤ sq) ∧
     (sq ≤ (4294967295 : Int))) ∧
    ∀ (e_26 : Int),
    ∀ (ys_27 : List UInt8),
    ∀ (n_28 : Nat),
    (e_26 = wE bo) →
    (ys_27 = wO kd sq bo) →
    (ys_27.length = n_28) →
    ∀ (e_32 : Int),
    ∀ (kd_33 : Int),
    ∀ (sq_34 : Int),
    ∀ (bo_35 : List UInt8),
    ∀ (n_36 : Nat),
    (e_32 = oE (List.take b.length (List.drop (0 : Nat) z6))) →
    (kd_33 = oKD (List.take b.length (List.drop (0 : Nat) z6))) →
    (sq_34 = oSD (List.take b.length (List.drop (0 : Nat) z6))) →
    (bo_35 = oBD (List.take b.length (List.drop (0 : Nat) z6))) →
    (bo_35.length = n_36) →
    ((0 : Int) ≤ kd_33 ∧ kd_33 ≤ (255 : Int)) →
    ((0 : Int) ≤ sq_34 ∧ sq_34 ≤ (4294967295 : Int)) →
    ∀ (e_44 : Int),
    ∀ (kd_45 : Int),
    ∀ (sq_46 : Int),
    ∀ (bo_47 : List UInt8),
    ∀ (n_48 : Nat),
    (e_44 = oE b) →
    (kd_45 = oKD b) →
    (sq_46 = oSD b) →
    (bo_47 = oBD b) →
    (bo_47.length = n_48) →
    ((0 : Int) ≤ kd_45 ∧ kd_45 ≤ (255 : Int)) →
    ((0 : Int) ≤ sq_46 ∧ sq_46 ≤ (4294967295 : Int)) →
    ((List.take b.length (List.drop (0 : Nat) z6)).length ≤ (1000000 : Nat)) ∧
    ∀ (e_56 : Int),
    ∀ (ys_57 : List UInt8),
    ∀ (n_58 : Nat),
    (e_56 = bE (List.take b.length (List.drop (0 : Nat) z6))) →
    (ys_57 = bO (List.take b.length (List.drop (0 : Nat) z6))) →
    (ys_57.length = n_58) →
    (b.length ≤ (1000000 : Nat)) ∧
    ∀ (e_62 : Int),
    ∀ (ys_63 : List UInt8),
    ∀ (n_64 : Nat),
    (e_62 = bE b) →
    (ys_63 = bO b) →
    (ys_63.length = n_64) →
    ((List.take b.length (List.drop (0 : Nat) z6)).length ≤ (1000000 : Nat)) ∧
    ∀ (ys_68 : List UInt8),
    ∀ (n_69 : Nat),
    (ys_68 = stf (List.take b.length (List.drop (0 : Nat) z6))) →
    (ys_68.length = n_69) →
    br (bif bif bif !{ data := (List.take n_10 (List.drop (0 : Nat) ys_9)).toArray : ByteArray }.data.toList == { data := (List.take n_16 (List.drop (0 : Nat) ys_15)).toArray : ByteArray }.data.toList then true else e_8 != e_14 then true else !{ data := (List.take n_22 (List.drop (0 : Nat) ys_21)).toArray : ByteArray }.data.toList == { data := (List.take n_28 (List.drop (0 : Nat) ys_27)).toArray : ByteArray }.data.toList then true else e_20 != e_26)
     ((true = true) ∧
      (true = true) ∧
      (k (AV.bool false) [] []))
     ((
       ((0 : Int) ≤ kd_33) ∧
       (kd_33 ≤ (255 : Int))) ∧
      (
       ((0 : Int) ≤ sq_34) ∧
       (sq_34 ≤ (4294967295 : Int))) ∧
      (
       ((0 : Int) ≤ kd_45) ∧
       (kd_45 ≤ (255 : Int))) ∧
      (
       ((0 : Int) ≤ sq_46) ∧
       (sq_46 ≤ (4294967295 : Int))) ∧
      ∀ (r_72 : Bool),
      (r_72 = true ↔ kd_33 = kd_45 ∧ sq_34 = sq_46 ∧ List.take n_36 (List.drop (0 : Nat) bo_35) = List.take n_48 (List.drop (0 : Nat) bo_47)) →
      br (bif bif bif bif false then true else !r_72 then true else e_32 != e_44 then true else !{ data := (List.take n_58 (List.drop (0 : Nat) ys_57)).toArray : ByteArray }.data.toList == { data := (List.take n_64 (List.drop (0 : Nat) ys_63)).toArray : ByteArray }.data.toList then true else e_56 != e_62)
       ((true = true) ∧
        (k (AV.bool false) [] []))
       ((b.length ≤ (1000000 : Nat)) ∧
        ∀ (ys_74 : List UInt8),
        ∀ (n_75 : Nat),
        (ys_74 = stf b) →
        (ys_74.length = n_75) →
        br (bif false then true else !{ data := (List.take n_69 (List.drop (0 : Nat) ys_68)).toArray : ByteArray }.data.toList == { data := (List.take n_75 (List.drop (0 : Nat) ys_74)).toArray : ByteArray }.data.toList)
         ((k (AV.bool false) [] []))
         ((
           ∃ (v : Int × Nat × Nat × Nat × List UInt8 × List UInt8 × List UInt8),
           (b = b) ∧
           ((0 : Nat) = (0 : Nat)) ∧
           (b.length = b.length) ∧
           ((0 : Nat) = (0 : Nat)) ∧
           (n_58 = v.snd.snd.fst) ∧
           ((0 : Nat) = (0 : Nat)) ∧
           (n_69 = v.snd.snd.snd.fst) ∧
           ((0 : Int) = v.fst) ∧
           (z6 = b) ∧
           ((0 : Nat) = (0 : Nat)) ∧
           (n_36 = v.snd.fst) ∧
           (bo_35 = v.snd.snd.snd.snd.fst) ∧
           (ys_57 = v.snd.snd.snd.snd.snd.fst) ∧
           (ys_68 = v.snd.snd.snd.snd.snd.snd) ∧
           (
            ((0 : Int) ≤ v.fst) ∧
            (v.fst ≤ (↑v.snd.fst : Int))) ∧
           (v.snd.snd.snd.snd.fst.length = v.snd.fst) ∧
           (v.snd.snd.snd.snd.snd.fst.length = v.snd.snd.fst) ∧
           (v.snd.snd.snd.snd.snd.snd.length = v.snd.snd.snd.fst)) ∧
          ∀ (v_78 : Int × Nat × Nat × Nat × List UInt8 × List UInt8 × List UInt8),
          (((0 : Int) ≤ v_78.fst ∧ v_78.fst ≤ (↑v_78.snd.fst : Int)) ∧ v_78.snd.snd.snd.snd.fst.length = v_78.snd.fst ∧ v_78.snd.snd.snd.snd.snd.fst.length = v_78.snd.snd.fst ∧ v_78.snd.snd.snd.snd.snd.snd.length = v_78.snd.snd.snd.fst) →
          ∀ (n80 : Int),
          (n80 = (↑v_78.snd.fst : Int)) →
          ((-9223372036854775808 : Int) ≤ n80 ∧ n80 ≤ (9223372036854775807 : Int)) →
          br (decide (v_78.fst < n80))
           (((0 : Int) ≤ v_78.fst) ∧
            (v_78.fst < (↑v_78.snd.fst : Int)) ∧
            ((0 : Nat) + v_78.fst.toNat < v_78.snd.snd.snd.snd.fst.length) ∧
            ∀ (n83 : Int),
            (n83 = (↑(v_78.snd.snd.snd.snd.fst.getD ((0 : Nat) + v_78.fst.toNat) (0 : UInt8)).toNat : Int)) →
            ((0 : Int) ≤ n83 ∧ n83 ≤ (255 : Int)) →
            ∀ (n86 : Int),
            (n86 = IntKind.u8.wrap (n83 + (1 : Int))) →
            ((0 : Int) ≤ n86 ∧ n86 ≤ (255 : Int)) →
            ((0 : Int) ≤ v_78.fst) ∧
            (v_78.fst < (↑v_78.snd.fst : Int)) ∧
            ((0 : Nat) + v_78.fst.toNat < v_78.snd.snd.snd.snd.fst.length) ∧
            ∀ (z89 : List UInt8),
            (z89 = v_78.snd.snd.snd.snd.fst.set ((0 : Nat) + v_78.fst.toNat) (UInt8.ofNat n86.toNat)) →
            ∀ (n91 : Int),
            (n91 = IntKind.i64.wrap (v_78.fst + (1 : Int))) →
            ((-9223372036854775808 : Int) ≤ n91 ∧ n91 ≤ (9223372036854775807 : Int)) →
            ∃ (v' : Int × Nat × Nat × Nat × List UInt8 × List UInt8 × List UInt8),
            (b = b) ∧
            ((0 : Nat) = (0 : Nat)) ∧
            (b.length = b.length) ∧
            ((0 : Nat) = (0 : Nat)) ∧
            (v_78.snd.snd.fst = v'.snd.snd.fst) ∧
            ((0 : Nat) = (0 : Nat)) ∧
            (v_78.snd.snd.snd.fst = v'.snd.snd.snd.fst) ∧
            (n91 = v'.fst) ∧
            (b = b) ∧
            ((0 : Nat) = (0 : Nat)) ∧
            (v_78.snd.fst = v'.snd.fst) ∧
            (z89 = v'.snd.snd.snd.snd.fst) ∧
            (v_78.snd.snd.snd.snd.snd.fst = v'.snd.snd.snd.snd.snd.fst) ∧
            (v_78.snd.snd.snd.snd.snd.snd = v'.snd.snd.snd.snd.snd.snd) ∧
            (
             (
              ((0 : Int) ≤ v'.fst) ∧
              (v'.fst ≤ (↑v'.snd.fst : Int))) ∧
             (v'.snd.snd.snd.snd.fst.length = v'.snd.fst) ∧
             (v'.snd.snd.snd.snd.snd.fst.length = v'.snd.snd.fst) ∧
             (v'.snd.snd.snd.snd.snd.snd.length = v'.snd.snd.snd.fst)) ∧
            (((↑v'.snd.fst : Int) - v'.fst).toNat < ((↑v_78.snd.fst : Int) - v_78.fst).toNat))
           ((
             ∃ (v : Int × Nat × Nat × List UInt8 × List UInt8),
             (b = b) ∧
             ((0 : Nat) = (0 : Nat)) ∧
             (b.length = b.length) ∧
             ((0 : Nat) = (0 : Nat)) ∧
             (v_78.snd.snd.fst = v.snd.fst) ∧
             ((0 : Nat) = (0 : Nat)) ∧
             (v_78.snd.snd.snd.fst = v.snd.snd.fst) ∧
             ((0 : Int) = v.fst) ∧
             (b = b) ∧
             (v_78.snd.snd.snd.snd.snd.fst = v.snd.snd.snd.fst) ∧
             (v_78.snd.snd.snd.snd.snd.snd = v.snd.snd.snd.snd) ∧
             (
              ((0 : Int) ≤ v.fst) ∧
              (v.fst ≤ (↑v.snd.fst : Int))) ∧
             (v.snd.snd.snd.fst.length = v.snd.fst) ∧
             (v.snd.snd.snd.snd.length = v.snd.snd.fst)) ∧
            ∀ (v_94 : Int × Nat × Nat × List UInt8 × List UInt8),
            (((0 : Int) ≤ v_94.fst ∧ v_94.fst ≤ (↑v_94.snd.fst : Int)) ∧ v_94.snd.snd.snd.fst.length = v_94.snd.fst ∧ v_94.snd.snd.snd.snd.length = v_94.snd.snd.fst) →
            ∀ (n96 : Int),
            (n96 = (↑v_94.snd.fst : Int)) →
            ((-9223372036854775808 : Int) ≤ n96 ∧ n96 ≤ (9223372036854775807 : Int)) →
            br (decide (v_94.fst < n96))
             (((0 : Int) ≤ v_94.fst) ∧
              (v_94.fst < (↑v_94.snd.fst : Int)) ∧
              ((0 : Nat) + v_94.fst.toNat < v_94.snd.snd.snd.fst.length) ∧
              ∀ (n99 : Int),
              (n99 = (↑(v_94.snd.snd.snd.fst.getD ((0 : Nat) + v_94.fst.toNat) (0 : UInt8)).toNat : Int)) →
              ((0 : Int) ≤ n99 ∧ n99 ≤ (255 : Int)) →
              ∀ (n102 : Int),
              (n102 = IntKind.u8.wrap (n99 + (1 : Int))) →
              ((0 : Int) ≤ n102 ∧ n102 ≤ (255 : Int)) →
              ((0 : Int) ≤ v_94.fst) ∧
              (v_94.fst < (↑v_94.snd.fst : Int)) ∧
              ((0 : Nat) + v_94.fst.toNat < v_94.snd.snd.snd.fst.length) ∧
              ∀ (z105 : List UInt8),
              (z105 = v_94.snd.snd.snd.fst.set ((0 : Nat) + v_94.fst.toNat) (UInt8.ofNat n102.toNat)) →
              ∀ (n107 : Int),
              (n107 = IntKind.i64.wrap (v_94.fst + (1 : Int))) →
              ((-9223372036854775808 : Int) ≤ n107 ∧ n107 ≤ (9223372036854775807 : Int)) →
              ∃ (v' : Int × Nat × Nat × List UInt8 × List UInt8),
              (b = b) ∧
              ((0 : Nat) = (0 : Nat)) ∧
              (b.length = b.length) ∧
              ((0 : Nat) = (0 : Nat)) ∧
              (v_94.snd.fst = v'.snd.fst) ∧
              ((0 : Nat) = (0 : Nat)) ∧
              (v_94.snd.snd.fst = v'.snd.snd.fst) ∧
              (n107 = v'.fst) ∧
              (b = b) ∧
              (z105 = v'.snd.snd.snd.fst) ∧
              (v_94.snd.snd.snd.snd = v'.snd.snd.snd.snd) ∧
              (
               (
                ((0 : Int) ≤ v'.fst) ∧
                (v'.fst ≤ (↑v'.snd.fst : Int))) ∧
               (v'.snd.snd.snd.fst.length = v'.snd.fst) ∧
               (v'.snd.snd.snd.snd.length = v'.snd.snd.fst)) ∧
              (((↑v'.snd.fst : Int) - v'.fst).toNat < ((↑v_94.snd.fst : Int) - v_94.fst).toNat))
             ((
               ∃ (v : Int × Nat × List UInt8),
               (b = b) ∧
               ((0 : Nat) = (0 : Nat)) ∧
               (b.length = b.length) ∧
               ((0 : Nat) = (0 : Nat)) ∧
               (v_94.snd.snd.fst = v.snd.fst) ∧
               ((0 : Int) = v.fst) ∧
               (b = b) ∧
               (v_94.snd.snd.snd.snd = v.snd.snd) ∧
               (
                ((0 : Int) ≤ v.fst) ∧
                (v.fst ≤ (↑v.snd.fst : Int))) ∧
               (v.snd.snd.length = v.snd.fst)) ∧
              ∀ (v_110 : Int × Nat × List UInt8),
              (((0 : Int) ≤ v_110.fst ∧ v_110.fst ≤ (↑v_110.snd.fst : Int)) ∧ v_110.snd.snd.length = v_110.snd.fst) →
              ∀ (n112 : Int),
              (n112 = (↑v_110.snd.fst : Int)) →
              ((-9223372036854775808 : Int) ≤ n112 ∧ n112 ≤ (9223372036854775807 : Int)) →
              br (decide (v_110.fst < n112))
               (((0 : Int) ≤ v_110.fst) ∧
                (v_110.fst < (↑v_110.snd.fst : Int)) ∧
                ((0 : Nat) + v_110.fst.toNat < v_110.snd.snd.length) ∧
                ∀ (n115 : Int),
                (n115 = (↑(v_110.snd.snd.getD ((0 : Nat) + v_110.fst.toNat) (0 : UInt8)).toNat : Int)) →
                ((0 : Int) ≤ n115 ∧ n115 ≤ (255 : Int)) →
                ∀ (n118 : Int),
                (n118 = IntKind.u8.wrap (n115 + (1 : Int))) →
                ((0 : Int) ≤ n118 ∧ n118 ≤ (255 : Int)) →
                ((0 : Int) ≤ v_110.fst) ∧
                (v_110.fst < (↑v_110.snd.fst : Int)) ∧
                ((0 : Nat) + v_110.fst.toNat < v_110.snd.snd.length) ∧
                ∀ (z121 : List UInt8),
                (z121 = v_110.snd.snd.set ((0 : Nat) + v_110.fst.toNat) (UInt8.ofNat n118.toNat)) →
                ∀ (n123 : Int),
                (n123 = IntKind.i64.wrap (v_110.fst + (1 : Int))) →
                ((-9223372036854775808 : Int) ≤ n123 ∧ n123 ≤ (9223372036854775807 : Int)) →
                ∃ (v' : Int × Nat × List UInt8),
                (b = b) ∧
                ((0 : Nat) = (0 : Nat)) ∧
                (b.length = b.length) ∧
                ((0 : Nat) = (0 : Nat)) ∧
                (v_110.snd.fst = v'.snd.fst) ∧
                (n123 = v'.fst) ∧
                (b = b) ∧
                (z121 = v'.snd.snd) ∧
                (
                 (
                  ((0 : Int) ≤ v'.fst) ∧
                  (v'.fst ≤ (↑v'.snd.fst : Int))) ∧
                 (v'.snd.snd.length = v'.snd.fst)) ∧
                (((↑v'.snd.fst : Int) - v'.fst).toNat < ((↑v_110.snd.fst : Int) - v_110.fst).toNat))
               ((k (AV.bool ({ data := (List.take b.length (List.drop (0 : Nat) b)).toArray : ByteArray }.data.toList == { data := b.toArray : ByteArray }.data.toList)) [] [])))))))) := by
  intro n1
  intro q1 -- n1 = (↑bo.length : Int)
  intro ⟨l1, u1⟩ -- (-9223372036854775808 : Int) ≤ n1 ∧ n1 ≤ (9223372036854775807 : Int)
  intro n4
  intro q4 -- n4 = (↑b.length : Int)
  refine br_intro (fun c1 => ?_) (fun c1 => ?_) -- bif decide (n1 > (20000 : Int)) then true else decide (n4 > (20000 : Int))
  · -- yes
    simp at c1 -- (20000 : Int) < n1 ∨ (20000 : Int) < n4
    exact by exact hk -- k (AV.bool true) [] []
  · -- no
    simp at c1 -- n1 ≤ (20000 : Int) ∧ n4 ≤ (20000 : Int)
    refine ⟨by first | omega | (dsimp only; omega), ?_⟩ -- b.length * (1 : Nat) ≤ (140737488355328 : Nat)
    intro z6
    intro qz6 -- z6 = b
    refine ⟨by exact ⟨by assumption, by assumption⟩, ?_⟩ -- (0 : Int) ≤ kd ∧ kd ≤ (255 : Int)
    refine ⟨by exact ⟨by assumption, by assumption⟩, ?_⟩ -- (0 : Int) ≤ sq ∧ sq ≤ (4294967295 : Int)
    intro e_8
    intro ys_9
    intro n_10
    intro h2 -- e_8 = iE bo
    intro h3 -- ys_9 = iO kd sq bo
    intro h4 -- ys_9.length = n_10
    refine ⟨by exact ⟨by assumption, by assumption⟩, ?_⟩ -- (0 : Int) ≤ kd ∧ kd ≤ (255 : Int)
    refine ⟨by exact ⟨by assumption, by assumption⟩, ?_⟩ -- (0 : Int) ≤ sq ∧ sq ≤ (4294967295 : Int)
    intro e_14
    intro ys_15
    intro n_16
    intro h5 -- e_14 = iE bo
    intro h6 -- ys_15 = iO kd sq bo
    intro h7 -- ys_15.length = n_16
    refine ⟨by exact ⟨by assumption, by assumption⟩, ?_⟩ -- (0 : Int) ≤ kd ∧ kd ≤ (255 : Int)
    refine ⟨by exact ⟨by assumption, by assumption⟩, ?_⟩ -- (0 : Int) ≤ sq ∧ sq ≤ (4294967295 : Int)
    intro e_20
    intro ys_21
    intro n_22
    intro h8 -- e_20 = wE bo
    intro h9 -- ys_21 = wO kd sq bo
    intro h10 -- ys_21.length = n_22
    refine ⟨by exact ⟨by assumption, by assumption⟩, ?_⟩ -- (0 : Int) ≤ kd ∧ kd ≤ (255 : Int)
    refine ⟨by exact ⟨by assumption, by assumption⟩, ?_⟩ -- (0 : Int) ≤ sq ∧ sq ≤ (4294967295 : Int)
    intro e_26
    intro ys_27
    intro n_28
    intro h11 -- e_26 = wE bo
    intro h12 -- ys_27 = wO kd sq bo
    intro h13 -- ys_27.length = n_28
    intro e_32
    intro kd_33
    intro sq_34
    intro bo_35
    intro n_36
    intro h14 -- e_32 = oE (List.take b.length (List.drop (0 : Nat) z6))
    intro h15 -- kd_33 = oKD (List.take b.length (List.drop (0 : Nat) z6))
    intro h16 -- sq_34 = oSD (List.take b.length (List.drop (0 : Nat) z6))
    intro h17 -- bo_35 = oBD (List.take b.length (List.drop (0 : Nat) z6))
    intro h18 -- bo_35.length = n_36
    intro ⟨a19, b19⟩ -- (0 : Int) ≤ kd_33 ∧ kd_33 ≤ (255 : Int)
    intro ⟨a20, b20⟩ -- (0 : Int) ≤ sq_34 ∧ sq_34 ≤ (4294967295 : Int)
    intro e_44
    intro kd_45
    intro sq_46
    intro bo_47
    intro n_48
    intro h21 -- e_44 = oE b
    intro h22 -- kd_45 = oKD b
    intro h23 -- sq_46 = oSD b
    intro h24 -- bo_47 = oBD b
    intro h25 -- bo_47.length = n_48
    intro ⟨a26, b26⟩ -- (0 : Int) ≤ kd_45 ∧ kd_45 ≤ (255 : Int)
    intro ⟨a27, b27⟩ -- (0 : Int) ≤ sq_46 ∧ sq_46 ≤ (4294967295 : Int)
    have h28 : (List.take b.length (List.drop (0 : Nat) z6)).length ≤ (1000000 : Nat) := by
      have E : List.take b.length (List.drop 0 z6) = b := by rw [qz6, List.drop_zero, List.take_length]
      rw [E]; omega
    refine ⟨h28, ?_⟩
    intro e_56
    intro ys_57
    intro n_58
    intro h29 -- e_56 = bE (List.take b.length (List.drop (0 : Nat) z6))
    intro h30 -- ys_57 = bO (List.take b.length (List.drop (0 : Nat) z6))
    intro h31 -- ys_57.length = n_58
    refine ⟨by first | omega | (dsimp only; omega), ?_⟩ -- b.length ≤ (1000000 : Nat)
    intro e_62
    intro ys_63
    intro n_64
    intro h32 -- e_62 = bE b
    intro h33 -- ys_63 = bO b
    intro h34 -- ys_63.length = n_64
    refine ⟨by assumption, ?_⟩ -- (List.take b.length (List.drop (0 : Nat) z6)).length ≤ (1000000 : Nat)
    intro ys_68
    intro n_69
    intro h35 -- ys_68 = stf (List.take b.length (List.drop (0 : Nat) z6))
    intro h36 -- ys_68.length = n_69
    refine br_intro (fun c37 => ?_) (fun c37 => ?_) -- bif bif bif !{ data := (List.take n_10 (List.drop (0 : Nat) ys_9)).toArray : ByteArray }.data.toList == { data := (List.take n_16 (List.drop (0 : Nat) ys_15)).toArray : ByteArray }.data.toList then true else e_8 != e_14 then true else !{ data := (List.take n_22 (List.drop (0 : Nat) ys_21)).toArray : ByteArray }.data.toList == { data := (List.take n_28 (List.drop (0 : Nat) ys_27)).toArray : ByteArray }.data.toList then true else e_20 != e_26
    · -- yes
      simp at c37 -- ((¬List.take n_10 ys_9 = List.take n_16 ys_15 ∨ ¬e_8 = e_14) ∨ ¬List.take n_22 ys_21 = List.take n_28 ys_27) ∨ ¬e_20 = e_26
      refine ⟨by with_reducible rfl, ?_⟩ -- true = true
      refine ⟨by with_reducible rfl, ?_⟩ -- true = true
      -- k (AV.bool false) [] []
      exfalso
      rcases c37 with ((c | c) | c) | c
      · exact c (by rw [← h4, ← h7, List.take_length, List.take_length, h3, h6] : List.take n_10 ys_9 = List.take n_16 ys_15)
      · exact c (h2.trans h5.symm)
      · exact c (by rw [← h10, ← h13, List.take_length, List.take_length, h9, h12] : List.take n_22 ys_21 = List.take n_28 ys_27)
      · exact c (h8.trans h11.symm)
    · -- no
      simp at c37 -- ((List.take n_10 ys_9 = List.take n_16 ys_15 ∧ e_8 = e_14) ∧ List.take n_22 ys_21 = List.take n_28 ys_27) ∧ e_20 = e_26
      refine ⟨by exact ⟨by assumption, by assumption⟩, ?_⟩ -- (0 : Int) ≤ kd_33 ∧ kd_33 ≤ (255 : Int)
      refine ⟨by exact ⟨by assumption, by assumption⟩, ?_⟩ -- (0 : Int) ≤ sq_34 ∧ sq_34 ≤ (4294967295 : Int)
      refine ⟨by exact ⟨by assumption, by assumption⟩, ?_⟩ -- (0 : Int) ≤ kd_45 ∧ kd_45 ≤ (255 : Int)
      refine ⟨by exact ⟨by assumption, by assumption⟩, ?_⟩ -- (0 : Int) ≤ sq_46 ∧ sq_46 ≤ (4294967295 : Int)
      intro r_72
      intro h38 -- r_72 = true ↔ kd_33 = kd_45 ∧ sq_34 = sq_46 ∧ List.take n_36 (List.drop (0 : Nat) bo_35) = List.take n_48 (List.drop (0 : Nat) bo_47)
      refine br_intro (fun c39 => ?_) (fun c39 => ?_) -- bif bif bif bif false then true else !r_72 then true else e_32 != e_44 then true else !{ data := (List.take n_58 (List.drop (0 : Nat) ys_57)).toArray : ByteArray }.data.toList == { data := (List.take n_64 (List.drop (0 : Nat) ys_63)).toArray : ByteArray }.data.toList then true else e_56 != e_62
      · -- yes
        simp at c39 -- ((r_72 = false ∨ ¬e_32 = e_44) ∨ ¬List.take n_58 ys_57 = List.take n_64 ys_63) ∨ ¬e_56 = e_62
        refine ⟨by with_reducible rfl, ?_⟩ -- true = true
        -- k (AV.bool false) [] []
        have E : List.take b.length (List.drop 0 z6) = b := by rw [qz6, List.drop_zero, List.take_length]
        rw [E] at h14 h15 h16 h17 h29 h30
        exfalso
        rcases c39 with ((c | c) | c) | c
        · rw [h38.2 ⟨h15.trans h22.symm, h16.trans h23.symm, by rw [List.drop_zero, List.drop_zero, ← h18, ← h25, List.take_length, List.take_length, h17, h24]⟩] at c
          cases c
        · exact c (h14.trans h21.symm)
        · exact c (by rw [← h31, ← h34, List.take_length, List.take_length, h30, h33] : List.take n_58 ys_57 = List.take n_64 ys_63)
        · exact c (h29.trans h32.symm)
      · -- no
        simp at c39 -- ((r_72 = true ∧ e_32 = e_44) ∧ List.take n_58 ys_57 = List.take n_64 ys_63) ∧ e_56 = e_62
        refine ⟨by first | omega | (dsimp only; omega), ?_⟩ -- b.length ≤ (1000000 : Nat)
        intro ys_74
        intro n_75
        intro h40 -- ys_74 = stf b
        intro h41 -- ys_74.length = n_75
        refine br_intro (fun c42 => ?_) (fun c42 => ?_) -- bif false then true else !{ data := (List.take n_69 (List.drop (0 : Nat) ys_68)).toArray : ByteArray }.data.toList == { data := (List.take n_75 (List.drop (0 : Nat) ys_74)).toArray : ByteArray }.data.toList
        · -- yes
          simp at c42 -- ¬List.take n_69 ys_68 = List.take n_75 ys_74
          -- k (AV.bool false) [] []
          have E : List.take b.length (List.drop 0 z6) = b := by rw [qz6, List.drop_zero, List.take_length]
          rw [E] at h35
          exact absurd (by rw [← h36, ← h41, List.take_length, List.take_length, h35, h40] : List.take n_69 ys_68 = List.take n_75 ys_74) c42
        · -- no
          simp at c42 -- List.take n_69 ys_68 = List.take n_75 ys_74
          refine ⟨?_, ?_⟩
          · -- left
            refine ⟨((0 : Int), n_36, n_58, n_69, bo_35, ys_57, ys_68), ?_⟩
            refine ⟨by first | with_reducible rfl | rfl, ?_⟩ -- b = b
            refine ⟨by first | with_reducible rfl | rfl, ?_⟩ -- (0 : Nat) = (0 : Nat)
            refine ⟨by first | with_reducible rfl | rfl, ?_⟩ -- b.length = b.length
            refine ⟨by first | with_reducible rfl | rfl, ?_⟩ -- (0 : Nat) = (0 : Nat)
            refine ⟨by first | with_reducible rfl | rfl, ?_⟩ -- n_58 = n_58
            refine ⟨by first | with_reducible rfl | rfl, ?_⟩ -- (0 : Nat) = (0 : Nat)
            refine ⟨by first | with_reducible rfl | rfl, ?_⟩ -- n_69 = n_69
            refine ⟨by first | with_reducible rfl | rfl, ?_⟩ -- (0 : Int) = (0 : Int)
            refine ⟨by show z6 = b; assumption, ?_⟩ -- z6 = b
            refine ⟨by first | with_reducible rfl | rfl, ?_⟩ -- (0 : Nat) = (0 : Nat)
            refine ⟨by first | with_reducible rfl | rfl, ?_⟩ -- n_36 = n_36
            refine ⟨by first | with_reducible rfl | rfl, ?_⟩ -- bo_35 = bo_35
            refine ⟨by first | with_reducible rfl | rfl, ?_⟩ -- ys_57 = ys_57
            refine ⟨by first | with_reducible rfl | rfl, ?_⟩ -- ys_68 = ys_68
            refine ⟨by first | omega | (dsimp only; omega), ?_⟩ -- (0 : Int) ≤ (0 : Int) ∧ (0 : Int) ≤ (↑n_36 : Int)
            refine ⟨by show bo_35.length = n_36; assumption, ?_⟩ -- bo_35.length = n_36
            refine ⟨by show ys_57.length = n_58; assumption, ?_⟩ -- ys_57.length = n_58
            exact by show ys_68.length = n_69; assumption -- ys_68.length = n_69
          intro v_78
          intro h43 -- ((0 : Int) ≤ v_78.fst ∧ v_78.fst ≤ (↑v_78.snd.fst : Int)) ∧ v_78.snd.snd.snd.snd.fst.length = v_78.snd.fst ∧ v_78.snd.snd.snd.snd.snd.fst.length = v_78.snd.snd.fst ∧ v_78.snd.snd.snd.snd.snd.snd.length = v_78.snd.snd.snd.fst
          intro n80
          intro q80 -- n80 = (↑v_78.snd.fst : Int)
          intro ⟨l80, u80⟩ -- (-9223372036854775808 : Int) ≤ n80 ∧ n80 ≤ (9223372036854775807 : Int)
          refine brd (fun c44 => ?_) (fun c44 => ?_) -- decide (v_78.fst < n80)
          · -- yes
            refine ⟨by first | omega | (dsimp only; omega), ?_⟩ -- (0 : Int) ≤ v_78.fst
            refine ⟨by first | omega | (dsimp only; omega), ?_⟩ -- v_78.fst < (↑v_78.snd.fst : Int)
            refine ⟨by first | omega | (dsimp only; omega), ?_⟩ -- (0 : Nat) + v_78.fst.toNat < v_78.snd.snd.snd.snd.fst.length
            intro n83
            intro q83 -- n83 = (↑(v_78.snd.snd.snd.snd.fst.getD ((0 : Nat) + v_78.fst.toNat) (0 : UInt8)).toNat : Int)
            intro ⟨l83, u83⟩ -- (0 : Int) ≤ n83 ∧ n83 ≤ (255 : Int)
            intro n86
            intro q86 -- n86 = IntKind.u8.wrap (n83 + (1 : Int))
            rw [IntKind.wrap_u8] at q86
            intro ⟨l86, u86⟩ -- (0 : Int) ≤ n86 ∧ n86 ≤ (255 : Int)
            refine ⟨by first | omega | (dsimp only; omega), ?_⟩ -- (0 : Int) ≤ v_78.fst
            refine ⟨by first | omega | (dsimp only; omega), ?_⟩ -- v_78.fst < (↑v_78.snd.fst : Int)
            refine ⟨by first | omega | (dsimp only; omega), ?_⟩ -- (0 : Nat) + v_78.fst.toNat < v_78.snd.snd.snd.snd.fst.length
            intro z89
            intro qz89 -- z89 = v_78.snd.snd.snd.snd.fst.set ((0 : Nat) + v_78.fst.toNat) (UInt8.ofNat n86.toNat)
            intro n91
            intro q91 -- n91 = IntKind.i64.wrap (v_78.fst + (1 : Int))
            rw [IntKind.wrap_i64] at q91
            intro ⟨l91, u91⟩ -- (-9223372036854775808 : Int) ≤ n91 ∧ n91 ≤ (9223372036854775807 : Int)
            refine ⟨(n91, v_78.snd.fst, v_78.snd.snd.fst, v_78.snd.snd.snd.fst, z89, v_78.snd.snd.snd.snd.snd.fst, v_78.snd.snd.snd.snd.snd.snd), ?_⟩
            refine ⟨by first | with_reducible rfl | rfl, ?_⟩ -- b = b
            refine ⟨by first | with_reducible rfl | rfl, ?_⟩ -- (0 : Nat) = (0 : Nat)
            refine ⟨by first | with_reducible rfl | rfl, ?_⟩ -- b.length = b.length
            refine ⟨by first | with_reducible rfl | rfl, ?_⟩ -- (0 : Nat) = (0 : Nat)
            refine ⟨by first | with_reducible rfl | rfl, ?_⟩ -- v_78.snd.snd.fst = v_78.snd.snd.fst
            refine ⟨by first | with_reducible rfl | rfl, ?_⟩ -- (0 : Nat) = (0 : Nat)
            refine ⟨by first | with_reducible rfl | rfl, ?_⟩ -- v_78.snd.snd.snd.fst = v_78.snd.snd.snd.fst
            refine ⟨by first | with_reducible rfl | rfl, ?_⟩ -- n91 = n91
            refine ⟨by first | with_reducible rfl | rfl, ?_⟩ -- b = b
            refine ⟨by first | with_reducible rfl | rfl, ?_⟩ -- (0 : Nat) = (0 : Nat)
            refine ⟨by first | with_reducible rfl | rfl, ?_⟩ -- v_78.snd.fst = v_78.snd.fst
            refine ⟨by first | with_reducible rfl | rfl, ?_⟩ -- z89 = z89
            refine ⟨by first | with_reducible rfl | rfl, ?_⟩ -- v_78.snd.snd.snd.snd.snd.fst = v_78.snd.snd.snd.snd.snd.fst
            refine ⟨by first | with_reducible rfl | rfl, ?_⟩ -- v_78.snd.snd.snd.snd.snd.snd = v_78.snd.snd.snd.snd.snd.snd
            refine ⟨?_, ?_⟩
            · -- left
              refine ⟨by first | omega | (dsimp only; omega), ?_⟩ -- (0 : Int) ≤ n91 ∧ n91 ≤ (↑v_78.snd.fst : Int)
              have h45 : z89.length = v_78.snd.fst := by
                rw [qz89, List.length_set]; exact h43.2.1
              refine ⟨h45, ?_⟩
              refine ⟨by show v_78.snd.snd.snd.snd.snd.fst.length = v_78.snd.snd.fst; omega, ?_⟩ -- v_78.snd.snd.snd.snd.snd.fst.length = v_78.snd.snd.fst
              exact by show v_78.snd.snd.snd.snd.snd.snd.length = v_78.snd.snd.snd.fst; omega -- v_78.snd.snd.snd.snd.snd.snd.length = v_78.snd.snd.snd.fst
            exact by show ((↑v_78.snd.fst : Int) - n91).toNat < ((↑v_78.snd.fst : Int) - v_78.fst).toNat; omega -- ((↑v_78.snd.fst : Int) - n91).toNat < ((↑v_78.snd.fst : Int) - v_78.fst).toNat
          · -- no
            refine ⟨?_, ?_⟩
            · -- left
              refine ⟨((0 : Int), v_78.snd.snd.fst, v_78.snd.snd.snd.fst, v_78.snd.snd.snd.snd.snd.fst, v_78.snd.snd.snd.snd.snd.snd), ?_⟩
              refine ⟨by first | with_reducible rfl | rfl, ?_⟩ -- b = b
              refine ⟨by first | with_reducible rfl | rfl, ?_⟩ -- (0 : Nat) = (0 : Nat)
              refine ⟨by first | with_reducible rfl | rfl, ?_⟩ -- b.length = b.length
              refine ⟨by first | with_reducible rfl | rfl, ?_⟩ -- (0 : Nat) = (0 : Nat)
              refine ⟨by first | with_reducible rfl | rfl, ?_⟩ -- v_78.snd.snd.fst = v_78.snd.snd.fst
              refine ⟨by first | with_reducible rfl | rfl, ?_⟩ -- (0 : Nat) = (0 : Nat)
              refine ⟨by first | with_reducible rfl | rfl, ?_⟩ -- v_78.snd.snd.snd.fst = v_78.snd.snd.snd.fst
              refine ⟨by first | with_reducible rfl | rfl, ?_⟩ -- (0 : Int) = (0 : Int)
              refine ⟨by first | with_reducible rfl | rfl, ?_⟩ -- b = b
              refine ⟨by first | with_reducible rfl | rfl, ?_⟩ -- v_78.snd.snd.snd.snd.snd.fst = v_78.snd.snd.snd.snd.snd.fst
              refine ⟨by first | with_reducible rfl | rfl, ?_⟩ -- v_78.snd.snd.snd.snd.snd.snd = v_78.snd.snd.snd.snd.snd.snd
              refine ⟨by first | omega | (dsimp only; omega), ?_⟩ -- (0 : Int) ≤ (0 : Int) ∧ (0 : Int) ≤ (↑v_78.snd.snd.fst : Int)
              refine ⟨by show v_78.snd.snd.snd.snd.snd.fst.length = v_78.snd.snd.fst; omega, ?_⟩ -- v_78.snd.snd.snd.snd.snd.fst.length = v_78.snd.snd.fst
              exact by show v_78.snd.snd.snd.snd.snd.snd.length = v_78.snd.snd.snd.fst; omega -- v_78.snd.snd.snd.snd.snd.snd.length = v_78.snd.snd.snd.fst
            intro v_94
            intro h46 -- ((0 : Int) ≤ v_94.fst ∧ v_94.fst ≤ (↑v_94.snd.fst : Int)) ∧ v_94.snd.snd.snd.fst.length = v_94.snd.fst ∧ v_94.snd.snd.snd.snd.length = v_94.snd.snd.fst
            intro n96
            intro q96 -- n96 = (↑v_94.snd.fst : Int)
            intro ⟨l96, u96⟩ -- (-9223372036854775808 : Int) ≤ n96 ∧ n96 ≤ (9223372036854775807 : Int)
            refine brd (fun c47 => ?_) (fun c47 => ?_) -- decide (v_94.fst < n96)
            · -- yes
              refine ⟨by first | omega | (dsimp only; omega), ?_⟩ -- (0 : Int) ≤ v_94.fst
              refine ⟨by first | omega | (dsimp only; omega), ?_⟩ -- v_94.fst < (↑v_94.snd.fst : Int)
              refine ⟨by first | omega | (dsimp only; omega), ?_⟩ -- (0 : Nat) + v_94.fst.toNat < v_94.snd.snd.snd.fst.length
              intro n99
              intro q99 -- n99 = (↑(v_94.snd.snd.snd.fst.getD ((0 : Nat) + v_94.fst.toNat) (0 : UInt8)).toNat : Int)
              intro ⟨l99, u99⟩ -- (0 : Int) ≤ n99 ∧ n99 ≤ (255 : Int)
              intro n102
              intro q102 -- n102 = IntKind.u8.wrap (n99 + (1 : Int))
              rw [IntKind.wrap_u8] at q102
              intro ⟨l102, u102⟩ -- (0 : Int) ≤ n102 ∧ n102 ≤ (255 : Int)
              refine ⟨by first | omega | (dsimp only; omega), ?_⟩ -- (0 : Int) ≤ v_94.fst
              refine ⟨by first | omega | (dsimp only; omega), ?_⟩ -- v_94.fst < (↑v_94.snd.fst : Int)
              refine ⟨by first | omega | (dsimp only; omega), ?_⟩ -- (0 : Nat) + v_94.fst.toNat < v_94.snd.snd.snd.fst.length
              intro z105
              intro qz105 -- z105 = v_94.snd.snd.snd.fst.set ((0 : Nat) + v_94.fst.toNat) (UInt8.ofNat n102.toNat)
              intro n107
              intro q107 -- n107 = IntKind.i64.wrap (v_94.fst + (1 : Int))
              rw [IntKind.wrap_i64] at q107
              intro ⟨l107, u107⟩ -- (-9223372036854775808 : Int) ≤ n107 ∧ n107 ≤ (9223372036854775807 : Int)
              refine ⟨(n107, v_94.snd.fst, v_94.snd.snd.fst, z105, v_94.snd.snd.snd.snd), ?_⟩
              refine ⟨by first | with_reducible rfl | rfl, ?_⟩ -- b = b
              refine ⟨by first | with_reducible rfl | rfl, ?_⟩ -- (0 : Nat) = (0 : Nat)
              refine ⟨by first | with_reducible rfl | rfl, ?_⟩ -- b.length = b.length
              refine ⟨by first | with_reducible rfl | rfl, ?_⟩ -- (0 : Nat) = (0 : Nat)
              refine ⟨by first | with_reducible rfl | rfl, ?_⟩ -- v_94.snd.fst = v_94.snd.fst
              refine ⟨by first | with_reducible rfl | rfl, ?_⟩ -- (0 : Nat) = (0 : Nat)
              refine ⟨by first | with_reducible rfl | rfl, ?_⟩ -- v_94.snd.snd.fst = v_94.snd.snd.fst
              refine ⟨by first | with_reducible rfl | rfl, ?_⟩ -- n107 = n107
              refine ⟨by first | with_reducible rfl | rfl, ?_⟩ -- b = b
              refine ⟨by first | with_reducible rfl | rfl, ?_⟩ -- z105 = z105
              refine ⟨by first | with_reducible rfl | rfl, ?_⟩ -- v_94.snd.snd.snd.snd = v_94.snd.snd.snd.snd
              refine ⟨?_, ?_⟩
              · -- left
                refine ⟨by first | omega | (dsimp only; omega), ?_⟩ -- (0 : Int) ≤ n107 ∧ n107 ≤ (↑v_94.snd.fst : Int)
                have h48 : z105.length = v_94.snd.fst := by
                  rw [qz105, List.length_set]; exact h46.2.1
                refine ⟨h48, ?_⟩
                exact by show v_94.snd.snd.snd.snd.length = v_94.snd.snd.fst; omega -- v_94.snd.snd.snd.snd.length = v_94.snd.snd.fst
              exact by show ((↑v_94.snd.fst : Int) - n107).toNat < ((↑v_94.snd.fst : Int) - v_94.fst).toNat; omega -- ((↑v_94.snd.fst : Int) - n107).toNat < ((↑v_94.snd.fst : Int) - v_94.fst).toNat
            · -- no
              refine ⟨?_, ?_⟩
              · -- left
                refine ⟨((0 : Int), v_94.snd.snd.fst, v_94.snd.snd.snd.snd), ?_⟩
                refine ⟨by first | with_reducible rfl | rfl, ?_⟩ -- b = b
                refine ⟨by first | with_reducible rfl | rfl, ?_⟩ -- (0 : Nat) = (0 : Nat)
                refine ⟨by first | with_reducible rfl | rfl, ?_⟩ -- b.length = b.length
                refine ⟨by first | with_reducible rfl | rfl, ?_⟩ -- (0 : Nat) = (0 : Nat)
                refine ⟨by first | with_reducible rfl | rfl, ?_⟩ -- v_94.snd.snd.fst = v_94.snd.snd.fst
                refine ⟨by first | with_reducible rfl | rfl, ?_⟩ -- (0 : Int) = (0 : Int)
                refine ⟨by first | with_reducible rfl | rfl, ?_⟩ -- b = b
                refine ⟨by first | with_reducible rfl | rfl, ?_⟩ -- v_94.snd.snd.snd.snd = v_94.snd.snd.snd.snd
                refine ⟨by first | omega | (dsimp only; omega), ?_⟩ -- (0 : Int) ≤ (0 : Int) ∧ (0 : Int) ≤ (↑v_94.snd.snd.fst : Int)
                exact by show v_94.snd.snd.snd.snd.length = v_94.snd.snd.fst; omega -- v_94.snd.snd.snd.snd.length = v_94.snd.snd.fst
              intro v_110
              intro h49 -- ((0 : Int) ≤ v_110.fst ∧ v_110.fst ≤ (↑v_110.snd.fst : Int)) ∧ v_110.snd.snd.length = v_110.snd.fst
              intro n112
              intro q112 -- n112 = (↑v_110.snd.fst : Int)
              intro ⟨l112, u112⟩ -- (-9223372036854775808 : Int) ≤ n112 ∧ n112 ≤ (9223372036854775807 : Int)
              refine brd (fun c50 => ?_) (fun c50 => ?_) -- decide (v_110.fst < n112)
              · -- yes
                refine ⟨by first | omega | (dsimp only; omega), ?_⟩ -- (0 : Int) ≤ v_110.fst
                refine ⟨by first | omega | (dsimp only; omega), ?_⟩ -- v_110.fst < (↑v_110.snd.fst : Int)
                refine ⟨by first | omega | (dsimp only; omega), ?_⟩ -- (0 : Nat) + v_110.fst.toNat < v_110.snd.snd.length
                intro n115
                intro q115 -- n115 = (↑(v_110.snd.snd.getD ((0 : Nat) + v_110.fst.toNat) (0 : UInt8)).toNat : Int)
                intro ⟨l115, u115⟩ -- (0 : Int) ≤ n115 ∧ n115 ≤ (255 : Int)
                intro n118
                intro q118 -- n118 = IntKind.u8.wrap (n115 + (1 : Int))
                rw [IntKind.wrap_u8] at q118
                intro ⟨l118, u118⟩ -- (0 : Int) ≤ n118 ∧ n118 ≤ (255 : Int)
                refine ⟨by first | omega | (dsimp only; omega), ?_⟩ -- (0 : Int) ≤ v_110.fst
                refine ⟨by first | omega | (dsimp only; omega), ?_⟩ -- v_110.fst < (↑v_110.snd.fst : Int)
                refine ⟨by first | omega | (dsimp only; omega), ?_⟩ -- (0 : Nat) + v_110.fst.toNat < v_110.snd.snd.length
                intro z121
                intro qz121 -- z121 = v_110.snd.snd.set ((0 : Nat) + v_110.fst.toNat) (UInt8.ofNat n118.toNat)
                intro n123
                intro q123 -- n123 = IntKind.i64.wrap (v_110.fst + (1 : Int))
                rw [IntKind.wrap_i64] at q123
                intro ⟨l123, u123⟩ -- (-9223372036854775808 : Int) ≤ n123 ∧ n123 ≤ (9223372036854775807 : Int)
                refine ⟨(n123, v_110.snd.fst, z121), ?_⟩
                refine ⟨by first | with_reducible rfl | rfl, ?_⟩ -- b = b
                refine ⟨by first | with_reducible rfl | rfl, ?_⟩ -- (0 : Nat) = (0 : Nat)
                refine ⟨by first | with_reducible rfl | rfl, ?_⟩ -- b.length = b.length
                refine ⟨by first | with_reducible rfl | rfl, ?_⟩ -- (0 : Nat) = (0 : Nat)
                refine ⟨by first | with_reducible rfl | rfl, ?_⟩ -- v_110.snd.fst = v_110.snd.fst
                refine ⟨by first | with_reducible rfl | rfl, ?_⟩ -- n123 = n123
                refine ⟨by first | with_reducible rfl | rfl, ?_⟩ -- b = b
                refine ⟨by first | with_reducible rfl | rfl, ?_⟩ -- z121 = z121
                refine ⟨?_, ?_⟩
                · -- left
                  refine ⟨by first | omega | (dsimp only; omega), ?_⟩ -- (0 : Int) ≤ n123 ∧ n123 ≤ (↑v_110.snd.fst : Int)
                  -- z121.length = v_110.snd.fst
                  rw [qz121, List.length_set]; exact h49.2
                exact by show ((↑v_110.snd.fst : Int) - n123).toNat < ((↑v_110.snd.fst : Int) - v_110.fst).toNat; omega -- ((↑v_110.snd.fst : Int) - n123).toNat < ((↑v_110.snd.fst : Int) - v_110.fst).toNat
              · -- no
                exact by exact k_true hk (by simp only [*]; simp) -- k (AV.bool ({ data := (List.take b.length (List.drop (0 : Nat) b)).toArray : ByteArray }.data.toList == { data := b.toArray : ByteArray }.data.toList)) [] []

theorem frameWrites_ok : Holds Try.prog 3 lawBack := by
  refine fn_sound (env := mkEnv U5) (tab_ok U5_ok) Try.func3 Try.call3 fun args k h => ?_
  match args, h with
  | [.agg [.int .u8 kd, .int .u32 sq, .sl 0 bo], .sl 0 b], h => exact ⟨by kernel_rfl, writesLoops b, fun _ _ => none, .cast (by kernel_rfl) (frameWrites_vc kd h.1.1 h.1.2 sq h.2.1.1 h.2.1.2 bo b k h.2.2)⟩
end Go.Proofs.Ytilbglkpbjamfaa
namespace Go.Proofs.Ytilbglkpbjamfaa
open Go.ChangeShapes Go.WideShapes Go.ChangeAt Go.RowKit Go.Eng
set_option linter.unusedVariables false

theorem ownW : ownKnob Try.prog.godebug = none := by kernel_rfl
theorem laidW : laidOutB Try.prog = true := by kernel_rfl

set_option maxHeartbeats 800000 in
set_option maxRecDepth 100000 in
theorem frameWritesLifted (os : Os) (started : os.Started) (H : Type) (enc : TypeId × Value → H) :
    ReturnsInHanded {} Try.checked os 3 .any (Rows.frameWritesSpec.pre6 enc Try.prog Try.f3 Rows.frameWritesRow.domain false) (Rows.frameWritesSpec.post enc Try.prog Try.f3 false true false false) := by
  refine returnsInHanded_of_change (C := Try.checked) ownW started (by kernel_rfl) Try.func3
    (ChangeSpec.witness6 (enc := enc) (C := Try.checked) false ⟨#[], #[.agg #[.int .u8 0, .int .u32 0, .slice none 0 0], .slice none 0 0], []⟩ 8 (by kernel_rfl) (by kernel_rfl) (by kernel_rfl) (by kernel_rfl)) ?_
  intro W base args ds gs before hval0 hW hcnd _
  have hval : ∀ (j : Nat) t v, Try.f3.params[j]? = some t → args[j]? = some v → Value.okWide Try.prog W .any base t v := hval0
  have hW' := hW
  obtain ⟨p, q, hA0, hV, rfl, hfz, hnd⟩ := hW
  have hA : DataW.TrodAll enc Try.prog W 0 (fun _ => true) true Try.f3.params.toList args.toList ds p := hA0
  rw [Try.params3] at hA hval
  obtain ⟨v0, vs0, d0, ds0, p0, q0, hargs, rfl, rfl, h0, r0⟩ := trodAll_cons hA
  obtain ⟨v1, vs1, d1, ds1, p1, q1, rfl, rfl, rfl, h1, r1⟩ := trodAll_cons r0
  obtain ⟨rfl, rfl, rfl⟩ := trodAll_nil r1
  obtain rfl : args = #[v0, v1] := by cases args; simp_all
  obtain ⟨rfl, rfl⟩ := trodVars_none hV
  have k0 := h0
  have lt0 : ∀ x ∈ p0, x.block < W.heap.size := by obtain ⟨m, hm⟩ := k0; exact DataW.trod_lt m _ _ _ hm
  obtain ⟨fuel0, hf0⟩ := h0
  obtain ⟨cs0, rfl, hsz0, hcs0⟩ := open_scal Try.underlying25 (by kernel_rfl) (by kernel_rfl) (hval 0 25 v0 rfl rfl) hf0
  obtain ⟨c0_0, c0_1, c0_2, rfl⟩ : ∃ b0 b1 b2, cs0 = #[b0, b1, b2] := by
    exact arr3 hsz0
  obtain ⟨n0_0, y0_0, hy0_0⟩ := hcs0 0 _ _ rfl rfl
  obtain ⟨a0_0, e0_0, -, w0_0⟩ := DataW.trod_int Try.underlying5 hy0_0
  obtain rfl : c0_0 = .int .u8 a0_0 := by simpa using e0_0
  obtain ⟨n0_1, y0_1, hy0_1⟩ := hcs0 1 _ _ rfl rfl
  obtain ⟨a0_1, e0_1, -, w0_1⟩ := DataW.trod_int Try.underlying22 hy0_1
  obtain rfl : c0_1 = .int .u32 a0_1 := by simpa using e0_1
  obtain ⟨n0_2, y0_2, hy0_2⟩ := hcs0 2 _ _ rfl rfl
  obtain ⟨u0_2, xs0_2, e0_2, o0_2, w0_2, -⟩ := rep_slice (c := 0) (by decide) Try.underlying23 (by kernel_rfl) (cells_u8 Try.underlying5) hy0_2
  obtain rfl : c0_2 = u0_2 := by simpa using e0_2
  have k1 := h1
  have lt1 : ∀ x ∈ p1, x.block < W.heap.size := by obtain ⟨m, hm⟩ := k1; exact DataW.trod_lt m _ _ _ hm
  obtain ⟨xs1, w1, z1⟩ : ∃ xs : List (ty 0), Rep W (· < W.heap.size) noIds v1 (.sl 0 xs) ∧ DSz Z0 d1 xs := by
    obtain ⟨fuel, hf⟩ := h1
    exact rep_in (c := 0) (by decide) Try.underlying23 (by kernel_rfl) (cells_u8 Try.underlying5) (hval 1 23 v1 rfl rfl) hf
  clear hA0 hval0
  have hk0_0 : kwf .u8 a0_0 := by simpa [Lit.wf, kwf] using w0_0
  have hk0_1 : kwf .u32 a0_1 := by simpa [Lit.wf, kwf] using w0_1
  refine (calls_of_holds frameWrites_ok Try.call3 (w := W) (vals := #[.agg #[.int .u8 a0_0, .int .u32 a0_1, c0_2], v1]) (args := [.agg [.int .u8 a0_0, .int .u32 a0_1, .sl 0 xs0_2], .sl 0 xs1]) rfl (fun j v hj => ?_) ⟨hk0_0, hk0_1, rfl⟩).mono fun e W' ⟨he, bel⟩ => ?_
  · rcases j with _ | _ | j
    · simp at hj; subst hj; refine .agg rfl (fun j v h => ?_) (fun j v h => ?_) <;> rcases j with _ | _ | _ | j <;> simp at h <;> subst h <;> first | rfl | exact .bool | exact .int (by assumption) | assumption
    · simp at hj; subst hj; exact w1
    · simp at hj
  subst he
  exact ⟨_, rfl, _, _, _, [], _, [], hW', trodAll_mk1 (shut_bool Try.underlying4 _), (trodAll_cons_mk (Below.trod laidW (by kernel_rfl) (of_decide_eq_true (by kernel_rfl)) k0 bel lt0) (trodAll_cons_mk (Below.trod laidW (by kernel_rfl) (of_decide_eq_true (by kernel_rfl)) k1 bel lt1) trodAll_mk0)), rfl, bel.frame _, fun h => by cases h⟩

theorem frameWrites_said : Rows.FrameWritesSaid :=
  OpenClaim.holds_of_wide 3 Try.f3 rfl rfl rfl rfl rfl rfl rfl ⟨rfl, rfl, rfl, rfl, rfl⟩ rfl rfl rfl rfl rfl (by kernel_rfl) Try.func3 (by kernel_rfl)
    (of_decide_eq_true (by kernel_rfl)) (by unfold Func.isWrapper; first | (rw [if_pos (by decide +kernel)]; kernel_rfl) | (rw [if_neg (by decide +kernel)]; exact ⟨rfl, rfl⟩))
    (fun os started H enc _ => frameWritesLifted os started H enc)
#print axioms frameWrites_said
end Go.Proofs.Ytilbglkpbjamfaa


