/- FrameBack: a message is opened again, bytes bare again; nothing else is opened, or bare; stuffed bytes have no end. Any message, any bytes. No conditions beyond the row's own. -/
import Derived.Test.YtilbglkpbjamfaaFrG
import Derived.Test.YtilbglkpbjamfaaRows
namespace Go.Proofs.Ytilbglkpbjamfaa
open Go Go.Eng Go.Rw Go.Fr Go.Proofs
set_option linter.unusedVariables false
set_option maxHeartbeats 2000000 in
theorem frameBack_vc (kd : Int) (kd0 : (0 : Int) ≤ kd) (kd1 : kd ≤ (255 : Int)) (sq : Int) (sq0 : (0 : Int) ≤ sq) (sq1 : sq ≤ (4294967295 : Int)) (bo : List UInt8) (b : List UInt8) (k : AV → List (Option Blk) → List Blk → Prop) (hk : k (AV.bool true) [] []) :
  ∀ (n1 : Int),
  (n1 = (↑b.length : Int)) →
  ((-9223372036854775808 : Int) ≤ n1 ∧ n1 ≤ (9223372036854775807 : Int)) →
  ∀ (n4 : Int),
  (n4 = (↑bo.length : Int)) →
  br (bif decide (n1 > (10000 : Int)) then true else decide (n4 > (10000 : Int)))
   ((k (AV.bool true) [] []))
   ((
     ((0 : Int) ≤ kd) ∧
     (kd ≤ (255 : Int))) ∧
    (
     ((0 : Int) ≤ sq) ∧
     (sq ≤ (4294967295 : Int))) ∧
    (
     ((512 : Nat) < bo.length) →
     (b.length ≤ (1000000 : Nat)) ∧
     ∀ (ys_6 : List UInt8),
     ∀ (n_7 : Nat),
     (ys_6 = stf b) →
     (ys_6.length = n_7) →
     (
      ∃ (v : Int),
      (b = b) ∧
      (true = true) ∧
      ((0 : Nat) = (0 : Nat)) ∧
      (n_7 = (stf b).length) ∧
      ((0 : Int) = v) ∧
      (ys_6 = stf b) ∧
      (
       ((0 : Int) ≤ v) ∧
       (v ≤ (↑(stf b).length : Int))) ∧
      (b.length ≤ (10000 : Nat))) ∧
     ∀ (v_10 : Int),
     (((0 : Int) ≤ v_10 ∧ v_10 ≤ (↑(stf b).length : Int)) ∧ b.length ≤ (10000 : Nat)) →
     ∀ (n12 : Int),
     (n12 = (↑(stf b).length : Int)) →
     ((-9223372036854775808 : Int) ≤ n12 ∧ n12 ≤ (9223372036854775807 : Int)) →
     br (decide (v_10 < n12))
      (((0 : Int) ≤ v_10) ∧
       (v_10 < (↑(stf b).length : Int)) ∧
       ((0 : Nat) + v_10.toNat < (stf b).length) ∧
       ∀ (n15 : Int),
       (n15 = (↑((stf b).getD ((0 : Nat) + v_10.toNat) (0 : UInt8)).toNat : Int)) →
       ((0 : Int) ≤ n15 ∧ n15 ≤ (255 : Int)) →
       br (n15 == (126 : Int))
        ((k (AV.bool false) [] []))
        (∀ (n18 : Int),
         (n18 = IntKind.i64.wrap (v_10 + (1 : Int))) →
         ((-9223372036854775808 : Int) ≤ n18 ∧ n18 ≤ (9223372036854775807 : Int)) →
         ∃ (v' : Int),
         (b = b) ∧
         (true = true) ∧
         ((0 : Nat) = (0 : Nat)) ∧
         ((stf b).length = (stf b).length) ∧
         (n18 = v') ∧
         (stf b = stf b) ∧
         (
          (
           ((0 : Int) ≤ v') ∧
           (v' ≤ (↑(stf b).length : Int))) ∧
          (b.length ≤ (10000 : Nat))) ∧
         (((↑(stf b).length : Int) - v').toNat < ((↑(stf b).length : Int) - v_10).toNat)))
      (((List.take (stf b).length (List.drop (0 : Nat) (stf b))).length ≤ (1000000 : Nat)) ∧
       (
        (bare (List.take (stf b).length (List.drop (0 : Nat) (stf b))) = none) →
        (k (AV.bool false) [] [])) ∧
       ∀ (o_21 : List UInt8),
       ∀ (n_22 : Nat),
       (bare (List.take (stf b).length (List.drop (0 : Nat) (stf b))) = some o_21) →
       (o_21.length = n_22) →
       br (bif (0 : Int) != (0 : Int) then true else !{ data := (List.take n_22 (List.drop (0 : Nat) o_21)).toArray : ByteArray }.data.toList == { data := b.toArray : ByteArray }.data.toList)
        ((k (AV.bool false) [] []))
        ((b.length ≤ (1000000 : Nat)) ∧
         (
          (bare b = none) →
          (false = false) ∧
          (
           (¬okO b) →
           (k (AV.bool (bif true then (8 : Int) == (8 : Int) else false)) [] [])) ∧
          (((9 : Nat) ≤ b.length ∧ b.length ≤ (521 : Nat) ∧ sumN (List.take (b.length - (4 : Nat)) b) = getL (List.drop (b.length - (4 : Nat)) b)) →
          ∀ (kd_25 : Int),
          ∀ (sq_26 : Int),
          ∀ (bo_27 : List UInt8),
          ∀ (n_28 : Nat),
          (kd_25 = oK b) →
          (sq_26 = oS b) →
          (bo_27 = oB b) →
          (bo_27.length = n_28) →
          ((0 : Int) ≤ kd_25 ∧ kd_25 ≤ (255 : Int)) →
          ((0 : Int) ≤ sq_26 ∧ sq_26 ≤ (4294967295 : Int)) →
          (
           ((0 : Int) ≤ kd_25) ∧
           (kd_25 ≤ (255 : Int))) ∧
          (
           ((0 : Int) ≤ sq_26) ∧
           (sq_26 ≤ (4294967295 : Int))) ∧
          (
           ((512 : Nat) < (List.take n_28 (List.drop (0 : Nat) bo_27)).length) →
           (k (AV.bool (bif bif true then (3 : Int) == (0 : Int) else false then { data := #[] : ByteArray }.data.toList == { data := b.toArray : ByteArray }.data.toList else false)) [] [])) ∧
          (((List.take n_28 (List.drop (0 : Nat) bo_27)).length ≤ (512 : Nat)) →
          ∀ (ys_36 : List UInt8),
          ∀ (n_37 : Nat),
          (ys_36 = ins kd_25 sq_26 (List.take n_28 (List.drop (0 : Nat) bo_27))) →
          (ys_36.length = n_37) →
          (k (AV.bool (bif bif true then (0 : Int) == (0 : Int) else false then { data := (List.take n_37 (List.drop (0 : Nat) ys_36)).toArray : ByteArray }.data.toList == { data := b.toArray : ByteArray }.data.toList else false)) [] [])))) ∧
         ∀ (o_40 : List UInt8),
         ∀ (n_41 : Nat),
         (bare b = some o_40) →
         (o_40.length = n_41) →
         ((List.take n_41 (List.drop (0 : Nat) o_40)).length ≤ (1000000 : Nat)) ∧
         ∀ (ys_44 : List UInt8),
         ∀ (n_45 : Nat),
         (ys_44 = stf (List.take n_41 (List.drop (0 : Nat) o_40))) →
         (ys_44.length = n_45) →
         br (bif true then !{ data := (List.take n_45 (List.drop (0 : Nat) ys_44)).toArray : ByteArray }.data.toList == { data := b.toArray : ByteArray }.data.toList else false)
          ((k (AV.bool false) [] []))
          ((
            (¬okO b) →
            (k (AV.bool (bif true then (8 : Int) == (8 : Int) else false)) [] [])) ∧
           (((9 : Nat) ≤ b.length ∧ b.length ≤ (521 : Nat) ∧ sumN (List.take (b.length - (4 : Nat)) b) = getL (List.drop (b.length - (4 : Nat)) b)) →
           ∀ (kd_48 : Int),
           ∀ (sq_49 : Int),
           ∀ (bo_50 : List UInt8),
           ∀ (n_51 : Nat),
           (kd_48 = oK b) →
           (sq_49 = oS b) →
           (bo_50 = oB b) →
           (bo_50.length = n_51) →
           ((0 : Int) ≤ kd_48 ∧ kd_48 ≤ (255 : Int)) →
           ((0 : Int) ≤ sq_49 ∧ sq_49 ≤ (4294967295 : Int)) →
           (
            ((0 : Int) ≤ kd_48) ∧
            (kd_48 ≤ (255 : Int))) ∧
           (
            ((0 : Int) ≤ sq_49) ∧
            (sq_49 ≤ (4294967295 : Int))) ∧
           (
            ((512 : Nat) < (List.take n_51 (List.drop (0 : Nat) bo_50)).length) →
            (k (AV.bool (bif bif true then (3 : Int) == (0 : Int) else false then { data := #[] : ByteArray }.data.toList == { data := b.toArray : ByteArray }.data.toList else false)) [] [])) ∧
           (((List.take n_51 (List.drop (0 : Nat) bo_50)).length ≤ (512 : Nat)) →
           ∀ (ys_59 : List UInt8),
           ∀ (n_60 : Nat),
           (ys_59 = ins kd_48 sq_49 (List.take n_51 (List.drop (0 : Nat) bo_50))) →
           (ys_59.length = n_60) →
           (k (AV.bool (bif bif true then (0 : Int) == (0 : Int) else false then { data := (List.take n_60 (List.drop (0 : Nat) ys_59)).toArray : ByteArray }.data.toList == { data := b.toArray : ByteArray }.data.toList else false)) [] []))))))) ∧
    ((bo.length ≤ (512 : Nat)) →
    ∀ (ys_63 : List UInt8),
    ∀ (n_64 : Nat),
    (ys_63 = ins kd sq bo) →
    (ys_63.length = n_64) →
    (
     (¬okO (List.take n_64 (List.drop (0 : Nat) ys_63))) →
     (true = true) ∧
     (k (AV.bool false) [] [])) ∧
    (((9 : Nat) ≤ (List.take n_64 (List.drop (0 : Nat) ys_63)).length ∧ (List.take n_64 (List.drop (0 : Nat) ys_63)).length ≤ (521 : Nat) ∧ sumN (List.take ((List.take n_64 (List.drop (0 : Nat) ys_63)).length - (4 : Nat)) (List.take n_64 (List.drop (0 : Nat) ys_63))) = getL (List.drop ((List.take n_64 (List.drop (0 : Nat) ys_63)).length - (4 : Nat)) (List.take n_64 (List.drop (0 : Nat) ys_63)))) →
    ∀ (kd_68 : Int),
    ∀ (sq_69 : Int),
    ∀ (bo_70 : List UInt8),
    ∀ (n_71 : Nat),
    (kd_68 = oK (List.take n_64 (List.drop (0 : Nat) ys_63))) →
    (sq_69 = oS (List.take n_64 (List.drop (0 : Nat) ys_63))) →
    (bo_70 = oB (List.take n_64 (List.drop (0 : Nat) ys_63))) →
    (bo_70.length = n_71) →
    ((0 : Int) ≤ kd_68 ∧ kd_68 ≤ (255 : Int)) →
    ((0 : Int) ≤ sq_69 ∧ sq_69 ≤ (4294967295 : Int)) →
    ∀ (r_78 : Bool),
    ((eqM (List.take (1 : Nat) (List.drop (0 : Nat) [{ kind := UInt8.ofNat kd_68.toNat, seq := UInt32.ofNat sq_69.toNat, body := List.take n_71 (List.drop (0 : Nat) bo_70) : Msg }])) (List.take (1 : Nat) (List.drop (0 : Nat) [{ kind := UInt8.ofNat kd.toNat, seq := UInt32.ofNat sq.toNat, body := bo : Msg }]))) →
     (r_78 = true)) →
    br (bif false then true else !r_78)
     ((k (AV.bool false) [] []))
     ((b.length ≤ (1000000 : Nat)) ∧
      ∀ (ys_80 : List UInt8),
      ∀ (n_81 : Nat),
      (ys_80 = stf b) →
      (ys_80.length = n_81) →
      (
       ∃ (v : Int),
       (b = b) ∧
       (true = true) ∧
       ((0 : Nat) = (0 : Nat)) ∧
       (n_81 = (stf b).length) ∧
       ((0 : Int) = v) ∧
       (ys_80 = stf b) ∧
       (
        ((0 : Int) ≤ v) ∧
        (v ≤ (↑(stf b).length : Int))) ∧
       (b.length ≤ (10000 : Nat))) ∧
      ∀ (v_84 : Int),
      (((0 : Int) ≤ v_84 ∧ v_84 ≤ (↑(stf b).length : Int)) ∧ b.length ≤ (10000 : Nat)) →
      ∀ (n86 : Int),
      (n86 = (↑(stf b).length : Int)) →
      ((-9223372036854775808 : Int) ≤ n86 ∧ n86 ≤ (9223372036854775807 : Int)) →
      br (decide (v_84 < n86))
       (((0 : Int) ≤ v_84) ∧
        (v_84 < (↑(stf b).length : Int)) ∧
        ((0 : Nat) + v_84.toNat < (stf b).length) ∧
        ∀ (n89 : Int),
        (n89 = (↑((stf b).getD ((0 : Nat) + v_84.toNat) (0 : UInt8)).toNat : Int)) →
        ((0 : Int) ≤ n89 ∧ n89 ≤ (255 : Int)) →
        br (n89 == (126 : Int))
         ((k (AV.bool false) [] []))
         (∀ (n92 : Int),
          (n92 = IntKind.i64.wrap (v_84 + (1 : Int))) →
          ((-9223372036854775808 : Int) ≤ n92 ∧ n92 ≤ (9223372036854775807 : Int)) →
          ∃ (v' : Int),
          (b = b) ∧
          (true = true) ∧
          ((0 : Nat) = (0 : Nat)) ∧
          ((stf b).length = (stf b).length) ∧
          (n92 = v') ∧
          (stf b = stf b) ∧
          (
           (
            ((0 : Int) ≤ v') ∧
            (v' ≤ (↑(stf b).length : Int))) ∧
           (b.length ≤ (10000 : Nat))) ∧
          (((↑(stf b).length : Int) - v').toNat < ((↑(stf b).length : Int) - v_84).toNat)))
       (((List.take (stf b).length (List.drop (0 : Nat) (stf b))).length ≤ (1000000 : Nat)) ∧
        (
         (bare (List.take (stf b).length (List.drop (0 : Nat) (stf b))) = none) →
         (k (AV.bool false) [] [])) ∧
        ∀ (o_95 : List UInt8),
        ∀ (n_96 : Nat),
        (bare (List.take (stf b).length (List.drop (0 : Nat) (stf b))) = some o_95) →
        (o_95.length = n_96) →
        br (bif (0 : Int) != (0 : Int) then true else !{ data := (List.take n_96 (List.drop (0 : Nat) o_95)).toArray : ByteArray }.data.toList == { data := b.toArray : ByteArray }.data.toList)
         ((k (AV.bool false) [] []))
         ((b.length ≤ (1000000 : Nat)) ∧
          (
           (bare b = none) →
           (false = false) ∧
           (
            (¬okO b) →
            (k (AV.bool (bif true then (8 : Int) == (8 : Int) else false)) [] [])) ∧
           (((9 : Nat) ≤ b.length ∧ b.length ≤ (521 : Nat) ∧ sumN (List.take (b.length - (4 : Nat)) b) = getL (List.drop (b.length - (4 : Nat)) b)) →
           ∀ (kd_99 : Int),
           ∀ (sq_100 : Int),
           ∀ (bo_101 : List UInt8),
           ∀ (n_102 : Nat),
           (kd_99 = oK b) →
           (sq_100 = oS b) →
           (bo_101 = oB b) →
           (bo_101.length = n_102) →
           ((0 : Int) ≤ kd_99 ∧ kd_99 ≤ (255 : Int)) →
           ((0 : Int) ≤ sq_100 ∧ sq_100 ≤ (4294967295 : Int)) →
           (
            ((0 : Int) ≤ kd_99) ∧
            (kd_99 ≤ (255 : Int))) ∧
           (
            ((0 : Int) ≤ sq_100) ∧
            (sq_100 ≤ (4294967295 : Int))) ∧
           (
            ((512 : Nat) < (List.take n_102 (List.drop (0 : Nat) bo_101)).length) →
            (k (AV.bool (bif bif true then (3 : Int) == (0 : Int) else false then { data := #[] : ByteArray }.data.toList == { data := b.toArray : ByteArray }.data.toList else false)) [] [])) ∧
           (((List.take n_102 (List.drop (0 : Nat) bo_101)).length ≤ (512 : Nat)) →
           ∀ (ys_110 : List UInt8),
           ∀ (n_111 : Nat),
           (ys_110 = ins kd_99 sq_100 (List.take n_102 (List.drop (0 : Nat) bo_101))) →
           (ys_110.length = n_111) →
           (k (AV.bool (bif bif true then (0 : Int) == (0 : Int) else false then { data := (List.take n_111 (List.drop (0 : Nat) ys_110)).toArray : ByteArray }.data.toList == { data := b.toArray : ByteArray }.data.toList else false)) [] [])))) ∧
          ∀ (o_114 : List UInt8),
          ∀ (n_115 : Nat),
          (bare b = some o_114) →
          (o_114.length = n_115) →
          ((List.take n_115 (List.drop (0 : Nat) o_114)).length ≤ (1000000 : Nat)) ∧
          ∀ (ys_118 : List UInt8),
          ∀ (n_119 : Nat),
          (ys_118 = stf (List.take n_115 (List.drop (0 : Nat) o_114))) →
          (ys_118.length = n_119) →
          br (bif true then !{ data := (List.take n_119 (List.drop (0 : Nat) ys_118)).toArray : ByteArray }.data.toList == { data := b.toArray : ByteArray }.data.toList else false)
           ((k (AV.bool false) [] []))
           ((
             (¬okO b) →
             (k (AV.bool (bif true then (8 : Int) == (8 : Int) else false)) [] [])) ∧
            (((9 : Nat) ≤ b.length ∧ b.length ≤ (521 : Nat) ∧ sumN (List.take (b.length - (4 : Nat)) b) = getL (List.drop (b.length - (4 : Nat)) b)) →
            ∀ (kd_122 : Int),
            ∀ (sq_123 : Int),
            ∀ (bo_124 : List UInt8),
            ∀ (n_125 : Nat),
            (kd_122 = oK b) →
            (sq_123 = oS b) →
            (bo_124 = oB b) →
            (bo_124.length = n_125) →
            ((0 : Int) ≤ kd_122 ∧ kd_122 ≤ (255 : Int)) →
            ((0 : Int) ≤ sq_123 ∧ sq_123 ≤ (4294967295 : Int)) →
            (
             ((0 : Int) ≤ kd_122) ∧
             (kd_122 ≤ (255 : Int))) ∧
            (
             ((0 : Int) ≤ sq_123) ∧
             (sq_123 ≤ (4294967295 : Int))) ∧
            (
             ((512 : Nat) < (List.take n_125 (List.drop (0 : Nat) bo_124)).length) →
             (k (AV.bool (bif bif true then (3 : Int) == (0 : Int) else false then { data := #[] : ByteArray }.data.toList == { data := b.toArray : ByteArray }.data.toList else false)) [] [])) ∧
            (((List.take n_125 (List.drop (0 : Nat) bo_124)).length ≤ (512 : Nat)) →
            ∀ (ys_133 : List UInt8),
            ∀ (n_134 : Nat),
            (ys_133 = ins kd_122 sq_123 (List.take n_125 (List.drop (0 : Nat) bo_124))) →
            (ys_133.length = n_134) →
            (k (AV.bool (bif bif true then (0 : Int) == (0 : Int) else false then { data := (List.take n_134 (List.drop (0 : Nat) ys_133)).toArray : ByteArray }.data.toList == { data := b.toArray : ByteArray }.data.toList else false)) [] [])))))))))) := by
  intro n1
  intro q1 -- n1 = (↑b.length : Int)
  intro ⟨l1, u1⟩ -- (-9223372036854775808 : Int) ≤ n1 ∧ n1 ≤ (9223372036854775807 : Int)
  intro n4
  intro q4 -- n4 = (↑bo.length : Int)
  refine br_intro (fun c1 => ?_) (fun c1 => ?_) -- bif decide (n1 > (10000 : Int)) then true else decide (n4 > (10000 : Int))
  · -- yes
    simp at c1 -- (10000 : Int) < n1 ∨ (10000 : Int) < n4
    exact by exact hk -- k (AV.bool true) [] []
  · -- no
    simp at c1 -- n1 ≤ (10000 : Int) ∧ n4 ≤ (10000 : Int)
    refine ⟨by exact ⟨by assumption, by assumption⟩, ?_⟩ -- (0 : Int) ≤ kd ∧ kd ≤ (255 : Int)
    refine ⟨by exact ⟨by assumption, by assumption⟩, ?_⟩ -- (0 : Int) ≤ sq ∧ sq ≤ (4294967295 : Int)
    refine ⟨?_, ?_⟩
    · -- left
      intro q4 -- (512 : Nat) < bo.length
      refine ⟨by first | omega | (dsimp only; omega), ?_⟩ -- b.length ≤ (1000000 : Nat)
      intro ys_6
      intro n_7
      intro h2 -- ys_6 = stf b
      intro h3 -- ys_6.length = n_7
      refine ⟨?_, ?_⟩
      · -- left
        refine ⟨(0 : Int), ?_⟩
        refine ⟨by first | with_reducible rfl | rfl, ?_⟩ -- b = b
        refine ⟨by first | with_reducible rfl | rfl, ?_⟩ -- true = true
        refine ⟨by first | with_reducible rfl | rfl, ?_⟩ -- (0 : Nat) = (0 : Nat)
        have h4 : n_7 = (stf b).length := by
          rw [← h3, h2]
        refine ⟨h4, ?_⟩
        refine ⟨by first | with_reducible rfl | rfl, ?_⟩ -- (0 : Int) = (0 : Int)
        refine ⟨by show ys_6 = stf b; assumption, ?_⟩ -- ys_6 = stf b
        refine ⟨by first | omega | (dsimp only; omega), ?_⟩ -- (0 : Int) ≤ (0 : Int) ∧ (0 : Int) ≤ (↑(stf b).length : Int)
        exact by show b.length ≤ (10000 : Nat); omega -- b.length ≤ (10000 : Nat)
      intro v_10
      intro h5 -- ((0 : Int) ≤ v_10 ∧ v_10 ≤ (↑(stf b).length : Int)) ∧ b.length ≤ (10000 : Nat)
      intro n12
      intro q12 -- n12 = (↑(stf b).length : Int)
      intro ⟨l12, u12⟩ -- (-9223372036854775808 : Int) ≤ n12 ∧ n12 ≤ (9223372036854775807 : Int)
      refine brd (fun c6 => ?_) (fun c6 => ?_) -- decide (v_10 < n12)
      · -- yes
        refine ⟨by first | omega | (dsimp only; omega), ?_⟩ -- (0 : Int) ≤ v_10
        refine ⟨by first | omega | (dsimp only; omega), ?_⟩ -- v_10 < (↑(stf b).length : Int)
        refine ⟨by first | omega | (dsimp only; omega), ?_⟩ -- (0 : Nat) + v_10.toNat < (stf b).length
        intro n15
        intro q15 -- n15 = (↑((stf b).getD ((0 : Nat) + v_10.toNat) (0 : UInt8)).toNat : Int)
        intro ⟨l15, u15⟩ -- (0 : Int) ≤ n15 ∧ n15 ≤ (255 : Int)
        refine br_intro (fun c7 => ?_) (fun c7 => ?_) -- n15 == (126 : Int)
        · -- yes
          simp at c7 -- n15 = (126 : Int)
          -- k (AV.bool false) [] []
          exact (stf_at (b := b) (i := 0 + v_10.toNat) (by omega) (byte_is (n := 126) (by decide) (by omega))).elim
        · -- no
          simp at c7 -- ¬n15 = (126 : Int)
          intro n18
          intro q18 -- n18 = IntKind.i64.wrap (v_10 + (1 : Int))
          rw [IntKind.wrap_i64] at q18
          intro ⟨l18, u18⟩ -- (-9223372036854775808 : Int) ≤ n18 ∧ n18 ≤ (9223372036854775807 : Int)
          refine ⟨n18, ?_⟩
          refine ⟨by first | with_reducible rfl | rfl, ?_⟩ -- b = b
          refine ⟨by first | with_reducible rfl | rfl, ?_⟩ -- true = true
          refine ⟨by first | with_reducible rfl | rfl, ?_⟩ -- (0 : Nat) = (0 : Nat)
          refine ⟨by first | with_reducible rfl | rfl, ?_⟩ -- (stf b).length = (stf b).length
          refine ⟨by first | with_reducible rfl | rfl, ?_⟩ -- n18 = n18
          refine ⟨by first | with_reducible rfl | rfl, ?_⟩ -- stf b = stf b
          refine ⟨?_, ?_⟩
          · -- left
            refine ⟨by first | omega | (dsimp only; omega), ?_⟩ -- (0 : Int) ≤ n18 ∧ n18 ≤ (↑(stf b).length : Int)
            exact by show b.length ≤ (10000 : Nat); omega -- b.length ≤ (10000 : Nat)
          exact by show ((↑(stf b).length : Int) - n18).toNat < ((↑(stf b).length : Int) - v_10).toNat; omega -- ((↑(stf b).length : Int) - n18).toNat < ((↑(stf b).length : Int) - v_10).toNat
      · -- no
        have h8 : (List.take (stf b).length (List.drop (0 : Nat) (stf b))).length ≤ (1000000 : Nat) := by
          rw [List.drop_zero, List.take_length]; have := stf_len b; omega
        refine ⟨h8, ?_⟩
        refine ⟨?_, ?_⟩
        · -- left
          intro h9 -- bare (List.take (stf b).length (List.drop (0 : Nat) (stf b))) = none
          -- k (AV.bool false) [] []
          exfalso
          rw [List.drop_zero, List.take_length, bare_stf] at h9
          cases h9
        intro o_21
        intro n_22
        intro h10 -- bare (List.take (stf b).length (List.drop (0 : Nat) (stf b))) = some o_21
        intro h11 -- o_21.length = n_22
        refine br_intro (fun c12 => ?_) (fun c12 => ?_) -- bif (0 : Int) != (0 : Int) then true else !{ data := (List.take n_22 (List.drop (0 : Nat) o_21)).toArray : ByteArray }.data.toList == { data := b.toArray : ByteArray }.data.toList
        · -- yes
          simp at c12 -- ¬List.take n_22 o_21 = b
          -- k (AV.bool false) [] []
          exfalso
          rw [List.drop_zero, List.take_length, bare_stf] at h10
          exact c12 (by rw [← h11, List.take_length]; exact (Option.some.inj h10).symm)
        · -- no
          simp at c12 -- List.take n_22 o_21 = b
          refine ⟨by first | omega | (dsimp only; omega), ?_⟩ -- b.length ≤ (1000000 : Nat)
          refine ⟨?_, ?_⟩
          · -- left
            intro h13 -- bare b = none
            refine ⟨by with_reducible rfl, ?_⟩ -- false = false
            refine ⟨?_, ?_⟩
            · -- left
              intro h14 -- ¬okO b
              exact by exact hk -- k (AV.bool (bif true then (8 : Int) == (8 : Int) else false)) [] []
            intro h15 -- (9 : Nat) ≤ b.length ∧ b.length ≤ (521 : Nat) ∧ sumN (List.take (b.length - (4 : Nat)) b) = getL (List.drop (b.length - (4 : Nat)) b)
            intro kd_25
            intro sq_26
            intro bo_27
            intro n_28
            intro h16 -- kd_25 = oK b
            intro h17 -- sq_26 = oS b
            intro h18 -- bo_27 = oB b
            intro h19 -- bo_27.length = n_28
            intro ⟨a20, b20⟩ -- (0 : Int) ≤ kd_25 ∧ kd_25 ≤ (255 : Int)
            intro ⟨a21, b21⟩ -- (0 : Int) ≤ sq_26 ∧ sq_26 ≤ (4294967295 : Int)
            refine ⟨by exact ⟨by assumption, by assumption⟩, ?_⟩ -- (0 : Int) ≤ kd_25 ∧ kd_25 ≤ (255 : Int)
            refine ⟨by exact ⟨by assumption, by assumption⟩, ?_⟩ -- (0 : Int) ≤ sq_26 ∧ sq_26 ≤ (4294967295 : Int)
            refine ⟨?_, ?_⟩
            · -- left
              intro h22 -- (512 : Nat) < (List.take n_28 (List.drop (0 : Nat) bo_27)).length
              -- k (AV.bool (bif bif true then (3 : Int) == (0 : Int) else false then { data := #[] : ByteArray }.data.toList == { data := b.toArray : ByteArray }.data.toList else false)) [] []
              exfalso
              have O := of_ok (b := b) h15
              have e : List.take n_28 (List.drop 0 bo_27) = oB b := by rw [List.drop_zero, ← h19, List.take_length, h18]
              have o2 := O.2
              rw [e] at h22
              omega
            intro h23 -- (List.take n_28 (List.drop (0 : Nat) bo_27)).length ≤ (512 : Nat)
            intro ys_36
            intro n_37
            intro h24 -- ys_36 = ins kd_25 sq_26 (List.take n_28 (List.drop (0 : Nat) bo_27))
            intro h25 -- ys_36.length = n_37
            -- k (AV.bool (bif bif true then (0 : Int) == (0 : Int) else false then { data := (List.take n_37 (List.drop (0 : Nat) ys_36)).toArray : ByteArray }.data.toList == { data := b.toArray : ByteArray }.data.toList else false)) [] []
            have O := of_ok (b := b) h15
            have e : List.take n_28 (List.drop 0 bo_27) = oB b := by rw [List.drop_zero, ← h19, List.take_length, h18]
            have Y : List.take n_37 (List.drop 0 ys_36) = b := by rw [List.drop_zero, ← h25, List.take_length, h24, e, h16, h17]; exact O.1
            exact k_true hk (by rw [Y]; simp)
          intro o_40
          intro n_41
          intro h26 -- bare b = some o_40
          intro h27 -- o_40.length = n_41
          have h28 : (List.take n_41 (List.drop (0 : Nat) o_40)).length ≤ (1000000 : Nat) := by
            have := bare_len h26
            rw [List.drop_zero, List.length_take]; omega
          refine ⟨h28, ?_⟩
          intro ys_44
          intro n_45
          intro h29 -- ys_44 = stf (List.take n_41 (List.drop (0 : Nat) o_40))
          intro h30 -- ys_44.length = n_45
          refine br_intro (fun c31 => ?_) (fun c31 => ?_) -- bif true then !{ data := (List.take n_45 (List.drop (0 : Nat) ys_44)).toArray : ByteArray }.data.toList == { data := b.toArray : ByteArray }.data.toList else false
          · -- yes
            simp at c31 -- ¬List.take n_45 ys_44 = b
            -- k (AV.bool false) [] []
            exfalso
            exact c31 (by rw [← h30, List.take_length, h29, List.drop_zero, ← h27, List.take_length]; exact bare_back h26)
          · -- no
            simp at c31 -- List.take n_45 ys_44 = b
            refine ⟨?_, ?_⟩
            · -- left
              intro h32 -- ¬okO b
              exact by exact hk -- k (AV.bool (bif true then (8 : Int) == (8 : Int) else false)) [] []
            intro h33 -- (9 : Nat) ≤ b.length ∧ b.length ≤ (521 : Nat) ∧ sumN (List.take (b.length - (4 : Nat)) b) = getL (List.drop (b.length - (4 : Nat)) b)
            intro kd_48
            intro sq_49
            intro bo_50
            intro n_51
            intro h34 -- kd_48 = oK b
            intro h35 -- sq_49 = oS b
            intro h36 -- bo_50 = oB b
            intro h37 -- bo_50.length = n_51
            intro ⟨a38, b38⟩ -- (0 : Int) ≤ kd_48 ∧ kd_48 ≤ (255 : Int)
            intro ⟨a39, b39⟩ -- (0 : Int) ≤ sq_49 ∧ sq_49 ≤ (4294967295 : Int)
            refine ⟨by exact ⟨by assumption, by assumption⟩, ?_⟩ -- (0 : Int) ≤ kd_48 ∧ kd_48 ≤ (255 : Int)
            refine ⟨by exact ⟨by assumption, by assumption⟩, ?_⟩ -- (0 : Int) ≤ sq_49 ∧ sq_49 ≤ (4294967295 : Int)
            refine ⟨?_, ?_⟩
            · -- left
              intro h40 -- (512 : Nat) < (List.take n_51 (List.drop (0 : Nat) bo_50)).length
              -- k (AV.bool (bif bif true then (3 : Int) == (0 : Int) else false then { data := #[] : ByteArray }.data.toList == { data := b.toArray : ByteArray }.data.toList else false)) [] []
              exfalso
              have O := of_ok (b := b) h33
              have e : List.take n_51 (List.drop 0 bo_50) = oB b := by rw [List.drop_zero, ← h37, List.take_length, h36]
              have o2 := O.2
              rw [e] at h40
              omega
            intro h41 -- (List.take n_51 (List.drop (0 : Nat) bo_50)).length ≤ (512 : Nat)
            intro ys_59
            intro n_60
            intro h42 -- ys_59 = ins kd_48 sq_49 (List.take n_51 (List.drop (0 : Nat) bo_50))
            intro h43 -- ys_59.length = n_60
            -- k (AV.bool (bif bif true then (0 : Int) == (0 : Int) else false then { data := (List.take n_60 (List.drop (0 : Nat) ys_59)).toArray : ByteArray }.data.toList == { data := b.toArray : ByteArray }.data.toList else false)) [] []
            have O := of_ok (b := b) h33
            have e : List.take n_51 (List.drop 0 bo_50) = oB b := by rw [List.drop_zero, ← h37, List.take_length, h36]
            have Y : List.take n_60 (List.drop 0 ys_59) = b := by rw [List.drop_zero, ← h43, List.take_length, h42, e, h34, h35]; exact O.1
            exact k_true hk (by rw [Y]; simp)
    intro h44 -- bo.length ≤ (512 : Nat)
    intro ys_63
    intro n_64
    intro h45 -- ys_63 = ins kd sq bo
    intro h46 -- ys_63.length = n_64
    refine ⟨?_, ?_⟩
    · -- left
      intro h47 -- ¬okO (List.take n_64 (List.drop (0 : Nat) ys_63))
      refine ⟨by with_reducible rfl, ?_⟩ -- true = true
      -- k (AV.bool false) [] []
      exfalso
      have E : List.take n_64 (List.drop 0 ys_63) = ins kd sq bo := by rw [List.drop_zero, ← h46, List.take_length, h45]
      rw [E] at h47
      exact h47 (ins_ok kd sq h44)
    intro h48 -- (9 : Nat) ≤ (List.take n_64 (List.drop (0 : Nat) ys_63)).length ∧ (List.take n_64 (List.drop (0 : Nat) ys_63)).length ≤ (521 : Nat) ∧ sumN (List.take ((List.take n_64 (List.drop (0 : Nat) ys_63)).length - (4 : Nat)) (List.take n_64 (List.drop (0 : Nat) ys_63))) = getL (List.drop ((List.take n_64 (List.drop (0 : Nat) ys_63)).length - (4 : Nat)) (List.take n_64 (List.drop (0 : Nat) ys_63)))
    intro kd_68
    intro sq_69
    intro bo_70
    intro n_71
    intro h49 -- kd_68 = oK (List.take n_64 (List.drop (0 : Nat) ys_63))
    intro h50 -- sq_69 = oS (List.take n_64 (List.drop (0 : Nat) ys_63))
    intro h51 -- bo_70 = oB (List.take n_64 (List.drop (0 : Nat) ys_63))
    intro h52 -- bo_70.length = n_71
    intro ⟨a53, b53⟩ -- (0 : Int) ≤ kd_68 ∧ kd_68 ≤ (255 : Int)
    intro ⟨a54, b54⟩ -- (0 : Int) ≤ sq_69 ∧ sq_69 ≤ (4294967295 : Int)
    intro r_78
    intro h55 -- eqM (List.take (1 : Nat) (List.drop (0 : Nat) [{ kind := UInt8.ofNat kd_68.toNat, seq := UInt32.ofNat sq_69.toNat, body := List.take n_71 (List.drop (0 : Nat) bo_70) : Msg }])) (List.take (1 : Nat) (List.drop (0 : Nat) [{ kind := UInt8.ofNat kd.toNat, seq := UInt32.ofNat sq.toNat, body := bo : Msg }])) → r_78 = true
    refine br_intro (fun c56 => ?_) (fun c56 => ?_) -- bif false then true else !r_78
    · -- yes
      simp at c56 -- r_78 = false
      -- k (AV.bool false) [] []
      exfalso
      have E : List.take n_64 (List.drop 0 ys_63) = ins kd sq bo := by rw [List.drop_zero, ← h46, List.take_length, h45]
      have K : kd_68 = kd := by rw [h49, E]; exact ins_K sq bo ⟨by omega, by omega⟩
      have S : sq_69 = sq := by rw [h50, E]; exact ins_S kd bo ⟨by omega, by omega⟩
      have Q : bo_70 = bo := by rw [h51, E]; exact ins_B kd sq bo
      have N : n_71 = bo.length := by rw [← h52, Q]
      rw [h55 ⟨by simp [K, S, Q, N]⟩] at c56
      cases c56
    · -- no
      simp at c56 -- r_78 = true
      refine ⟨by first | omega | (dsimp only; omega), ?_⟩ -- b.length ≤ (1000000 : Nat)
      intro ys_80
      intro n_81
      intro h57 -- ys_80 = stf b
      intro h58 -- ys_80.length = n_81
      refine ⟨?_, ?_⟩
      · -- left
        refine ⟨(0 : Int), ?_⟩
        refine ⟨by first | with_reducible rfl | rfl, ?_⟩ -- b = b
        refine ⟨by first | with_reducible rfl | rfl, ?_⟩ -- true = true
        refine ⟨by first | with_reducible rfl | rfl, ?_⟩ -- (0 : Nat) = (0 : Nat)
        have h59 : n_81 = (stf b).length := by
          rw [← h58, h57]
        refine ⟨h59, ?_⟩
        refine ⟨by first | with_reducible rfl | rfl, ?_⟩ -- (0 : Int) = (0 : Int)
        refine ⟨by show ys_80 = stf b; assumption, ?_⟩ -- ys_80 = stf b
        refine ⟨by first | omega | (dsimp only; omega), ?_⟩ -- (0 : Int) ≤ (0 : Int) ∧ (0 : Int) ≤ (↑(stf b).length : Int)
        exact by show b.length ≤ (10000 : Nat); omega -- b.length ≤ (10000 : Nat)
      intro v_84
      intro h60 -- ((0 : Int) ≤ v_84 ∧ v_84 ≤ (↑(stf b).length : Int)) ∧ b.length ≤ (10000 : Nat)
      intro n86
      intro q86 -- n86 = (↑(stf b).length : Int)
      intro ⟨l86, u86⟩ -- (-9223372036854775808 : Int) ≤ n86 ∧ n86 ≤ (9223372036854775807 : Int)
      refine brd (fun c61 => ?_) (fun c61 => ?_) -- decide (v_84 < n86)
      · -- yes
        refine ⟨by first | omega | (dsimp only; omega), ?_⟩ -- (0 : Int) ≤ v_84
        refine ⟨by first | omega | (dsimp only; omega), ?_⟩ -- v_84 < (↑(stf b).length : Int)
        refine ⟨by first | omega | (dsimp only; omega), ?_⟩ -- (0 : Nat) + v_84.toNat < (stf b).length
        intro n89
        intro q89 -- n89 = (↑((stf b).getD ((0 : Nat) + v_84.toNat) (0 : UInt8)).toNat : Int)
        intro ⟨l89, u89⟩ -- (0 : Int) ≤ n89 ∧ n89 ≤ (255 : Int)
        refine br_intro (fun c62 => ?_) (fun c62 => ?_) -- n89 == (126 : Int)
        · -- yes
          simp at c62 -- n89 = (126 : Int)
          -- k (AV.bool false) [] []
          exact (stf_at (b := b) (i := 0 + v_84.toNat) (by omega) (byte_is (n := 126) (by decide) (by omega))).elim
        · -- no
          simp at c62 -- ¬n89 = (126 : Int)
          intro n92
          intro q92 -- n92 = IntKind.i64.wrap (v_84 + (1 : Int))
          rw [IntKind.wrap_i64] at q92
          intro ⟨l92, u92⟩ -- (-9223372036854775808 : Int) ≤ n92 ∧ n92 ≤ (9223372036854775807 : Int)
          refine ⟨n92, ?_⟩
          refine ⟨by first | with_reducible rfl | rfl, ?_⟩ -- b = b
          refine ⟨by first | with_reducible rfl | rfl, ?_⟩ -- true = true
          refine ⟨by first | with_reducible rfl | rfl, ?_⟩ -- (0 : Nat) = (0 : Nat)
          refine ⟨by first | with_reducible rfl | rfl, ?_⟩ -- (stf b).length = (stf b).length
          refine ⟨by first | with_reducible rfl | rfl, ?_⟩ -- n92 = n92
          refine ⟨by first | with_reducible rfl | rfl, ?_⟩ -- stf b = stf b
          refine ⟨?_, ?_⟩
          · -- left
            refine ⟨by first | omega | (dsimp only; omega), ?_⟩ -- (0 : Int) ≤ n92 ∧ n92 ≤ (↑(stf b).length : Int)
            exact by show b.length ≤ (10000 : Nat); omega -- b.length ≤ (10000 : Nat)
          exact by show ((↑(stf b).length : Int) - n92).toNat < ((↑(stf b).length : Int) - v_84).toNat; omega -- ((↑(stf b).length : Int) - n92).toNat < ((↑(stf b).length : Int) - v_84).toNat
      · -- no
        have h63 : (List.take (stf b).length (List.drop (0 : Nat) (stf b))).length ≤ (1000000 : Nat) := by
          rw [List.drop_zero, List.take_length]; have := stf_len b; omega
        refine ⟨h63, ?_⟩
        refine ⟨?_, ?_⟩
        · -- left
          intro h64 -- bare (List.take (stf b).length (List.drop (0 : Nat) (stf b))) = none
          -- k (AV.bool false) [] []
          exfalso
          rw [List.drop_zero, List.take_length, bare_stf] at h64
          cases h64
        intro o_95
        intro n_96
        intro h65 -- bare (List.take (stf b).length (List.drop (0 : Nat) (stf b))) = some o_95
        intro h66 -- o_95.length = n_96
        refine br_intro (fun c67 => ?_) (fun c67 => ?_) -- bif (0 : Int) != (0 : Int) then true else !{ data := (List.take n_96 (List.drop (0 : Nat) o_95)).toArray : ByteArray }.data.toList == { data := b.toArray : ByteArray }.data.toList
        · -- yes
          simp at c67 -- ¬List.take n_96 o_95 = b
          -- k (AV.bool false) [] []
          exfalso
          rw [List.drop_zero, List.take_length, bare_stf] at h65
          exact c67 (by rw [← h66, List.take_length]; exact (Option.some.inj h65).symm)
        · -- no
          simp at c67 -- List.take n_96 o_95 = b
          refine ⟨by first | omega | (dsimp only; omega), ?_⟩ -- b.length ≤ (1000000 : Nat)
          refine ⟨?_, ?_⟩
          · -- left
            intro h68 -- bare b = none
            refine ⟨by with_reducible rfl, ?_⟩ -- false = false
            refine ⟨?_, ?_⟩
            · -- left
              intro h69 -- ¬okO b
              exact by exact hk -- k (AV.bool (bif true then (8 : Int) == (8 : Int) else false)) [] []
            intro h70 -- (9 : Nat) ≤ b.length ∧ b.length ≤ (521 : Nat) ∧ sumN (List.take (b.length - (4 : Nat)) b) = getL (List.drop (b.length - (4 : Nat)) b)
            intro kd_99
            intro sq_100
            intro bo_101
            intro n_102
            intro h71 -- kd_99 = oK b
            intro h72 -- sq_100 = oS b
            intro h73 -- bo_101 = oB b
            intro h74 -- bo_101.length = n_102
            intro ⟨a75, b75⟩ -- (0 : Int) ≤ kd_99 ∧ kd_99 ≤ (255 : Int)
            intro ⟨a76, b76⟩ -- (0 : Int) ≤ sq_100 ∧ sq_100 ≤ (4294967295 : Int)
            refine ⟨by exact ⟨by assumption, by assumption⟩, ?_⟩ -- (0 : Int) ≤ kd_99 ∧ kd_99 ≤ (255 : Int)
            refine ⟨by exact ⟨by assumption, by assumption⟩, ?_⟩ -- (0 : Int) ≤ sq_100 ∧ sq_100 ≤ (4294967295 : Int)
            refine ⟨?_, ?_⟩
            · -- left
              intro h77 -- (512 : Nat) < (List.take n_102 (List.drop (0 : Nat) bo_101)).length
              -- k (AV.bool (bif bif true then (3 : Int) == (0 : Int) else false then { data := #[] : ByteArray }.data.toList == { data := b.toArray : ByteArray }.data.toList else false)) [] []
              exfalso
              have O := of_ok (b := b) h70
              have e : List.take n_102 (List.drop 0 bo_101) = oB b := by rw [List.drop_zero, ← h74, List.take_length, h73]
              have o2 := O.2
              rw [e] at h77
              omega
            intro h78 -- (List.take n_102 (List.drop (0 : Nat) bo_101)).length ≤ (512 : Nat)
            intro ys_110
            intro n_111
            intro h79 -- ys_110 = ins kd_99 sq_100 (List.take n_102 (List.drop (0 : Nat) bo_101))
            intro h80 -- ys_110.length = n_111
            -- k (AV.bool (bif bif true then (0 : Int) == (0 : Int) else false then { data := (List.take n_111 (List.drop (0 : Nat) ys_110)).toArray : ByteArray }.data.toList == { data := b.toArray : ByteArray }.data.toList else false)) [] []
            have O := of_ok (b := b) h70
            have e : List.take n_102 (List.drop 0 bo_101) = oB b := by rw [List.drop_zero, ← h74, List.take_length, h73]
            have Y : List.take n_111 (List.drop 0 ys_110) = b := by rw [List.drop_zero, ← h80, List.take_length, h79, e, h71, h72]; exact O.1
            exact k_true hk (by rw [Y]; simp)
          intro o_114
          intro n_115
          intro h81 -- bare b = some o_114
          intro h82 -- o_114.length = n_115
          have h83 : (List.take n_115 (List.drop (0 : Nat) o_114)).length ≤ (1000000 : Nat) := by
            have := bare_len h81
            rw [List.drop_zero, List.length_take]; omega
          refine ⟨h83, ?_⟩
          intro ys_118
          intro n_119
          intro h84 -- ys_118 = stf (List.take n_115 (List.drop (0 : Nat) o_114))
          intro h85 -- ys_118.length = n_119
          refine br_intro (fun c86 => ?_) (fun c86 => ?_) -- bif true then !{ data := (List.take n_119 (List.drop (0 : Nat) ys_118)).toArray : ByteArray }.data.toList == { data := b.toArray : ByteArray }.data.toList else false
          · -- yes
            simp at c86 -- ¬List.take n_119 ys_118 = b
            -- k (AV.bool false) [] []
            exfalso
            exact c86 (by rw [← h85, List.take_length, h84, List.drop_zero, ← h82, List.take_length]; exact bare_back h81)
          · -- no
            simp at c86 -- List.take n_119 ys_118 = b
            refine ⟨?_, ?_⟩
            · -- left
              intro h87 -- ¬okO b
              exact by exact hk -- k (AV.bool (bif true then (8 : Int) == (8 : Int) else false)) [] []
            intro h88 -- (9 : Nat) ≤ b.length ∧ b.length ≤ (521 : Nat) ∧ sumN (List.take (b.length - (4 : Nat)) b) = getL (List.drop (b.length - (4 : Nat)) b)
            intro kd_122
            intro sq_123
            intro bo_124
            intro n_125
            intro h89 -- kd_122 = oK b
            intro h90 -- sq_123 = oS b
            intro h91 -- bo_124 = oB b
            intro h92 -- bo_124.length = n_125
            intro ⟨a93, b93⟩ -- (0 : Int) ≤ kd_122 ∧ kd_122 ≤ (255 : Int)
            intro ⟨a94, b94⟩ -- (0 : Int) ≤ sq_123 ∧ sq_123 ≤ (4294967295 : Int)
            refine ⟨by exact ⟨by assumption, by assumption⟩, ?_⟩ -- (0 : Int) ≤ kd_122 ∧ kd_122 ≤ (255 : Int)
            refine ⟨by exact ⟨by assumption, by assumption⟩, ?_⟩ -- (0 : Int) ≤ sq_123 ∧ sq_123 ≤ (4294967295 : Int)
            refine ⟨?_, ?_⟩
            · -- left
              intro h95 -- (512 : Nat) < (List.take n_125 (List.drop (0 : Nat) bo_124)).length
              -- k (AV.bool (bif bif true then (3 : Int) == (0 : Int) else false then { data := #[] : ByteArray }.data.toList == { data := b.toArray : ByteArray }.data.toList else false)) [] []
              exfalso
              have O := of_ok (b := b) h88
              have e : List.take n_125 (List.drop 0 bo_124) = oB b := by rw [List.drop_zero, ← h92, List.take_length, h91]
              have o2 := O.2
              rw [e] at h95
              omega
            intro h96 -- (List.take n_125 (List.drop (0 : Nat) bo_124)).length ≤ (512 : Nat)
            intro ys_133
            intro n_134
            intro h97 -- ys_133 = ins kd_122 sq_123 (List.take n_125 (List.drop (0 : Nat) bo_124))
            intro h98 -- ys_133.length = n_134
            -- k (AV.bool (bif bif true then (0 : Int) == (0 : Int) else false then { data := (List.take n_134 (List.drop (0 : Nat) ys_133)).toArray : ByteArray }.data.toList == { data := b.toArray : ByteArray }.data.toList else false)) [] []
            have O := of_ok (b := b) h88
            have e : List.take n_125 (List.drop 0 bo_124) = oB b := by rw [List.drop_zero, ← h92, List.take_length, h91]
            have Y : List.take n_134 (List.drop 0 ys_133) = b := by rw [List.drop_zero, ← h98, List.take_length, h97, e, h89, h90]; exact O.1
            exact k_true hk (by rw [Y]; simp)

theorem frameBack_ok : Holds Try.prog 8 lawBack := by
  refine fn_sound (env := mkEnv T2) (tab_ok T2_ok) Try.func8 Try.call8 fun args k h => ?_
  match args, h with
  | [.agg [.int .u8 kd, .int .u32 sq, .sl 0 bo], .sl 0 b], h => exact ⟨by kernel_rfl, backLoops b, fun _ _ => none, .cast (by kernel_rfl) (frameBack_vc kd h.1.1 h.1.2 sq h.2.1.1 h.2.1.2 bo b k h.2.2)⟩
end Go.Proofs.Ytilbglkpbjamfaa
namespace Go.Proofs.Ytilbglkpbjamfaa
open Go.ChangeShapes Go.WideShapes Go.ChangeAt Go.RowKit Go.Eng
set_option linter.unusedVariables false

theorem ownB : ownKnob Try.prog.godebug = none := by kernel_rfl
theorem laidB : laidOutB Try.prog = true := by kernel_rfl

set_option maxHeartbeats 800000 in
set_option maxRecDepth 100000 in
theorem frameBackLifted (os : Os) (started : os.Started) (H : Type) (enc : TypeId × Value → H) :
    ReturnsInHanded {} Try.checked os 8 .any (Rows.frameBackSpec.pre6 enc Try.prog Try.f8 Rows.frameBackRow.domain false) (Rows.frameBackSpec.post enc Try.prog Try.f8 false true false false) := by
  refine returnsInHanded_of_change (C := Try.checked) ownB started (by kernel_rfl) Try.func8
    (ChangeSpec.witness6 (enc := enc) (C := Try.checked) false ⟨#[], #[.agg #[.int .u8 0, .int .u32 0, .slice none 0 0], .slice none 0 0], []⟩ 8 (by kernel_rfl) (by kernel_rfl) (by kernel_rfl) (by kernel_rfl)) ?_
  intro W base args ds gs before hval0 hW hcnd _
  have hval : ∀ (j : Nat) t v, Try.f8.params[j]? = some t → args[j]? = some v → Value.okWide Try.prog W .any base t v := hval0
  have hW' := hW
  obtain ⟨p, q, hA0, hV, rfl, hfz, hnd⟩ := hW
  have hA : DataW.TrodAll enc Try.prog W 0 (fun _ => true) true Try.f8.params.toList args.toList ds p := hA0
  rw [Try.params8] at hA hval
  obtain ⟨v0, vs0, d0, ds0, p0, q0, hargs, rfl, rfl, h0, r0⟩ := trodAll_cons hA
  obtain ⟨v1, vs1, d1, ds1, p1, q1, rfl, rfl, rfl, h1, r1⟩ := trodAll_cons r0
  obtain ⟨rfl, rfl, rfl⟩ := trodAll_nil r1
  obtain rfl : args = #[v0, v1] := by cases args; simp_all
  obtain ⟨rfl, rfl⟩ := trodVars_none hV
  have k0 := h0
  have lt0 : ∀ x ∈ p0, x.block < W.heap.size := by obtain ⟨m, hm⟩ := k0; exact DataW.trod_lt m _ _ _ hm
  obtain ⟨fuel0, hf0⟩ := h0
  obtain ⟨cs0, rfl, hsz0, hcs0⟩ := open_scal Try.underlying25 (by kernel_rfl) (by kernel_rfl) (hval 0 25 v0 rfl rfl) hf0
  obtain ⟨c0_0, c0_1, c0_2, rfl⟩ : ∃ b0 b1 b2, cs0 = #[b0, b1, b2] := by
    exact arr3 hsz0
  obtain ⟨n0_0, y0_0, hy0_0⟩ := hcs0 0 _ _ rfl rfl
  obtain ⟨a0_0, e0_0, -, w0_0⟩ := DataW.trod_int Try.underlying5 hy0_0
  obtain rfl : c0_0 = .int .u8 a0_0 := by simpa using e0_0
  obtain ⟨n0_1, y0_1, hy0_1⟩ := hcs0 1 _ _ rfl rfl
  obtain ⟨a0_1, e0_1, -, w0_1⟩ := DataW.trod_int Try.underlying22 hy0_1
  obtain rfl : c0_1 = .int .u32 a0_1 := by simpa using e0_1
  obtain ⟨n0_2, y0_2, hy0_2⟩ := hcs0 2 _ _ rfl rfl
  obtain ⟨u0_2, xs0_2, e0_2, o0_2, w0_2, -⟩ := rep_slice (c := 0) (by decide) Try.underlying23 (by kernel_rfl) (cells_u8 Try.underlying5) hy0_2
  obtain rfl : c0_2 = u0_2 := by simpa using e0_2
  have k1 := h1
  have lt1 : ∀ x ∈ p1, x.block < W.heap.size := by obtain ⟨m, hm⟩ := k1; exact DataW.trod_lt m _ _ _ hm
  obtain ⟨xs1, w1, z1⟩ : ∃ xs : List (ty 0), Rep W (· < W.heap.size) noIds v1 (.sl 0 xs) ∧ DSz Z0 d1 xs := by
    obtain ⟨fuel, hf⟩ := h1
    exact rep_in (c := 0) (by decide) Try.underlying23 (by kernel_rfl) (cells_u8 Try.underlying5) (hval 1 23 v1 rfl rfl) hf
  clear hA0 hval0
  have hk0_0 : kwf .u8 a0_0 := by simpa [Lit.wf, kwf] using w0_0
  have hk0_1 : kwf .u32 a0_1 := by simpa [Lit.wf, kwf] using w0_1
  refine (calls_of_holds frameBack_ok Try.call8 (w := W) (vals := #[.agg #[.int .u8 a0_0, .int .u32 a0_1, c0_2], v1]) (args := [.agg [.int .u8 a0_0, .int .u32 a0_1, .sl 0 xs0_2], .sl 0 xs1]) rfl (fun j v hj => ?_) ⟨hk0_0, hk0_1, rfl⟩).mono fun e W' ⟨he, bel⟩ => ?_
  · rcases j with _ | _ | j
    · simp at hj; subst hj; refine .agg rfl (fun j v h => ?_) (fun j v h => ?_) <;> rcases j with _ | _ | _ | j <;> simp at h <;> subst h <;> first | rfl | exact .bool | exact .int (by assumption) | assumption
    · simp at hj; subst hj; exact w1
    · simp at hj
  subst he
  exact ⟨_, rfl, _, _, _, [], _, [], hW', trodAll_mk1 (shut_bool Try.underlying4 _), (trodAll_cons_mk (Below.trod laidB (by kernel_rfl) (of_decide_eq_true (by kernel_rfl)) k0 bel lt0) (trodAll_cons_mk (Below.trod laidB (by kernel_rfl) (of_decide_eq_true (by kernel_rfl)) k1 bel lt1) trodAll_mk0)), rfl, bel.frame _, fun h => by cases h⟩

theorem frameBack_said : Rows.FrameBackSaid :=
  OpenClaim.holds_of_wide 8 Try.f8 rfl rfl rfl rfl rfl rfl rfl ⟨rfl, rfl, rfl, rfl, rfl⟩ rfl rfl rfl rfl rfl (by kernel_rfl) Try.func8 (by kernel_rfl)
    (of_decide_eq_true (by kernel_rfl)) (by unfold Func.isWrapper; first | (rw [if_pos (by decide +kernel)]; kernel_rfl) | (rw [if_neg (by decide +kernel)]; exact ⟨rfl, rfl⟩))
    (fun os started H enc _ => frameBackLifted os started H enc)
#print axioms frameBack_said
end Go.Proofs.Ytilbglkpbjamfaa


