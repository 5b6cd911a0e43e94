/- FrameNames: the limits and errors have their numbers; the chapter's examples are so. No conditions: the statement has no arguments. -/
import Derived.Test.YtilbglkpbjamfaaFrR
import Derived.Test.YtilbglkpbjamfaaRows
namespace Go.Proofs.Ytilbglkpbjamfaa
open Go Go.Eng Go.Rw Go.Fr Go.Proofs
set_option linter.unusedVariables false
set_option maxHeartbeats 2000000 in
theorem frameNames_vc (k : AV → List (Option Blk) → List Blk → Prop) (hk : k (AV.bool true) [] []) :
  ((List.take (2 : Nat) (List.drop (0 : Nat) [UInt8.ofNat (Int.toNat (125 : Int)), UInt8.ofNat (Int.toNat (93 : Int))])).length ≤ (1000000 : Nat)) ∧
  ∀ (e_1 : Int),
  ∀ (ys_2 : List UInt8),
  ∀ (n_3 : Nat),
  (e_1 = bE (List.take (2 : Nat) (List.drop (0 : Nat) [UInt8.ofNat (Int.toNat (125 : Int)), UInt8.ofNat (Int.toNat (93 : Int))]))) →
  (ys_2 = bO (List.take (2 : Nat) (List.drop (0 : Nat) [UInt8.ofNat (Int.toNat (125 : Int)), UInt8.ofNat (Int.toNat (93 : Int))]))) →
  (ys_2.length = n_3) →
  (
   ∃ (v : Int × Nat × Int × List UInt8),
   ((0 : Nat) = (0 : Nat)) ∧
   (n_3 = v.snd.fst) ∧
   (e_1 = v.snd.snd.fst) ∧
   ((0 : Nat) = (0 : Nat)) ∧
   ((4 : Nat) = (4 : Nat)) ∧
   ((0 : Int) = v.fst) ∧
   (ys_2 = v.snd.snd.snd) ∧
   ([List.take (1 : Nat) (List.drop (0 : Nat) [UInt8.ofNat (Int.toNat (125 : Int))]), List.take (1 : Nat) (List.drop (0 : Nat) [UInt8.ofNat (Int.toNat (126 : Int))]), List.take (2 : Nat) (List.drop (0 : Nat) [UInt8.ofNat (Int.toNat (125 : Int)), UInt8.ofNat (Int.toNat (1 : Int))]), List.take (3 : Nat) (List.drop (0 : Nat) [UInt8.ofNat (Int.toNat (125 : Int)), UInt8.ofNat (Int.toNat (125 : Int)), UInt8.ofNat (Int.toNat (93 : Int))])] = badL) ∧
   (
    ((0 : Int) ≤ v.fst) ∧
    (v.fst ≤ (4 : Int))) ∧
   (v.snd.fst = (1 : Nat)) ∧
   (v.snd.snd.fst = (0 : Int)) ∧
   (v.snd.snd.snd = [(125 : UInt8)])) ∧
  ∀ (v_7 : Int × Nat × Int × List UInt8),
  (((0 : Int) ≤ v_7.fst ∧ v_7.fst ≤ (4 : Int)) ∧ v_7.snd.fst = (1 : Nat) ∧ v_7.snd.snd.fst = (0 : Int) ∧ v_7.snd.snd.snd = [(125 : UInt8)]) →
  ∀ (n9 : Int),
  (n9 = (↑(4 : Nat) : Int)) →
  ((-9223372036854775808 : Int) ≤ n9 ∧ n9 ≤ (9223372036854775807 : Int)) →
  br (decide (v_7.fst < n9))
   (((0 : Int) ≤ v_7.fst) ∧
    (v_7.fst < (↑(4 : Nat) : Int)) ∧
    ((0 : Nat) + v_7.fst.toNat < badL.length) ∧
    ((badL.getD ((0 : Nat) + v_7.fst.toNat) (dflt (6 : Nat))).length ≤ (1000000 : Nat)) ∧
    ∀ (e_12 : Int),
    ∀ (ys_13 : List UInt8),
    ∀ (n_14 : Nat),
    (e_12 = bE (badL.getD ((0 : Nat) + v_7.fst.toNat) (dflt (6 : Nat)))) →
    (ys_13 = bO (badL.getD ((0 : Nat) + v_7.fst.toNat) (dflt (6 : Nat)))) →
    (ys_13.length = n_14) →
    br (e_12 != (8 : Int))
     ((k (AV.bool false) [] []))
     (∀ (n18 : Int),
      (n18 = IntKind.i64.wrap (v_7.fst + (1 : Int))) →
      ((-9223372036854775808 : Int) ≤ n18 ∧ n18 ≤ (9223372036854775807 : Int)) →
      ∃ (v' : Int × Nat × Int × List UInt8),
      ((0 : Nat) = (0 : Nat)) ∧
      (v_7.snd.fst = v'.snd.fst) ∧
      (v_7.snd.snd.fst = v'.snd.snd.fst) ∧
      ((0 : Nat) = (0 : Nat)) ∧
      ((4 : Nat) = (4 : Nat)) ∧
      (n18 = v'.fst) ∧
      (v_7.snd.snd.snd = v'.snd.snd.snd) ∧
      (badL = badL) ∧
      (
       (
        ((0 : Int) ≤ v'.fst) ∧
        (v'.fst ≤ (4 : Int))) ∧
       (v'.snd.fst = (1 : Nat)) ∧
       (v'.snd.snd.fst = (0 : Int)) ∧
       (v'.snd.snd.snd = [(125 : UInt8)])) ∧
      (((4 : Int) - v'.fst).toNat < ((4 : Int) - v_7.fst).toNat)))
   ((
     ((0 : Int) ≤ (1 : Int)) ∧
     ((1 : Int) ≤ (255 : Int))) ∧
    (
     ((0 : Int) ≤ (2 : Int)) ∧
     ((2 : Int) ≤ (4294967295 : Int))) ∧
    ∀ (e_21 : Int),
    ∀ (ys_22 : List UInt8),
    ∀ (n_23 : Nat),
    (e_21 = wE []) →
    (ys_22 = wO (1 : Int) (2 : Int) []) →
    (ys_22.length = n_23) →
    (((2 : Nat) + n_23) * (1 : Nat) ≤ (140737488355328 : Nat)) ∧
    ∀ (z27 : List UInt8),
    (z27 = List.take (2 : Nat) [UInt8.ofNat (Int.toNat (7 : Int)), UInt8.ofNat (Int.toNat (7 : Int))] ++ List.take n_23 (List.drop (0 : Nat) ys_22)) →
    (((2 : Nat) + n_23 + (3 : Nat)) * (1 : Nat) ≤ (140737488355328 : Nat)) ∧
    ∀ (z29 : List UInt8),
    (z29 = List.take ((2 : Nat) + n_23) z27 ++ List.take (3 : Nat) (List.drop (0 : Nat) [UInt8.ofNat (Int.toNat (126 : Int)), UInt8.ofNat (Int.toNat (1 : Int)), UInt8.ofNat (Int.toNat (126 : Int))])) →
    (n_23 * (1 : Nat) ≤ (140737488355328 : Nat)) ∧
    ∀ (z31 : List UInt8),
    (z31 = List.take n_23 (List.drop (0 : Nat) ys_22)) →
    ((n_23 + (1 : Nat)) * (1 : Nat) ≤ (140737488355328 : Nat)) ∧
    ∀ (z33 : List UInt8),
    (z33 = List.take n_23 z31 ++ List.take (1 : Nat) (List.drop (0 : Nat) [UInt8.ofNat (Int.toNat (9 : Int))])) →
    (((2 : Nat) + n_23 + (3 : Nat) + (n_23 + (1 : Nat))) * (1 : Nat) ≤ (140737488355328 : Nat)) ∧
    ∀ (z35 : List UInt8),
    (z35 = List.take ((2 : Nat) + n_23 + (3 : Nat)) z29 ++ List.take (n_23 + (1 : Nat)) (List.drop (0 : Nat) z33)) →
    ∀ (e_37 : Int),
    ∀ (a_38 : Int),
    ∀ (ys_39 : List Msg),
    ∀ (n_40 : Nat),
    (e_37 = sE (List.take ((2 : Nat) + n_23 + (3 : Nat) + (n_23 + (1 : Nat))) (List.drop (0 : Nat) z35))) →
    (a_38 = sA (List.take ((2 : Nat) + n_23 + (3 : Nat) + (n_23 + (1 : Nat))) (List.drop (0 : Nat) z35))) →
    (ys_39 = sO (List.take ((2 : Nat) + n_23 + (3 : Nat) + (n_23 + (1 : Nat))) (List.drop (0 : Nat) z35))) →
    (ys_39.length = n_40) →
    ∀ (e_45 : Int),
    ∀ (a_46 : Int),
    ∀ (ys_47 : List Msg),
    ∀ (n_48 : Nat),
    (e_45 = sE (List.take (2 : Nat) (List.drop (0 : Nat) [UInt8.ofNat (Int.toNat (126 : Int)), UInt8.ofNat (Int.toNat (126 : Int))]))) →
    (a_46 = sA (List.take (2 : Nat) (List.drop (0 : Nat) [UInt8.ofNat (Int.toNat (126 : Int)), UInt8.ofNat (Int.toNat (126 : Int))]))) →
    (ys_47 = sO (List.take (2 : Nat) (List.drop (0 : Nat) [UInt8.ofNat (Int.toNat (126 : Int)), UInt8.ofNat (Int.toNat (126 : Int))]))) →
    (ys_47.length = n_48) →
    ∀ (e_53 : Int),
    ∀ (a_54 : Int),
    ∀ (ys_55 : List Msg),
    ∀ (n_56 : Nat),
    (e_53 = sE []) →
    (a_54 = sA []) →
    (ys_55 = sO []) →
    (ys_55.length = n_56) →
    (
     ((0 : Int) ≤ (513 : Int)) ∧
     ((513 : Int) ≤ (513 : Int)) ∧
     ((513 : Int) * (↑(1 : Nat) : Int) ≤ (140737488355328 : Int))) ∧
    (
     ((0 : Int) ≤ (0 : Int)) ∧
     ((0 : Int) ≤ (255 : Int))) ∧
    (
     ((0 : Int) ≤ (0 : Int)) ∧
     ((0 : Int) ≤ (4294967295 : Int))) ∧
    ∀ (e_61 : Int),
    ∀ (ys_62 : List UInt8),
    ∀ (n_63 : Nat),
    (e_61 = wE (List.take (Int.toNat (513 : Int)) (List.drop (0 : Nat) (List.replicate (Int.toNat (513 : Int)) (UInt8.ofNat (Int.toNat (0 : Int))))))) →
    (ys_62 = wO (0 : Int) (0 : Int) (List.take (Int.toNat (513 : Int)) (List.drop (0 : Nat) (List.replicate (Int.toNat (513 : Int)) (UInt8.ofNat (Int.toNat (0 : Int))))))) →
    (ys_62.length = n_63) →
    (
     ((0 : Int) ≤ (16385 : Int)) ∧
     ((16385 : Int) ≤ (16385 : Int)) ∧
     ((16385 : Int) * (↑(1 : Nat) : Int) ≤ (140737488355328 : Int))) ∧
    ∀ (e_67 : Int),
    ∀ (a_68 : Int),
    ∀ (ys_69 : List Msg),
    ∀ (n_70 : Nat),
    (e_67 = sE (List.take (Int.toNat (16385 : Int)) (List.drop (0 : Nat) (List.replicate (Int.toNat (16385 : Int)) (UInt8.ofNat (Int.toNat (0 : Int))))))) →
    (a_68 = sA (List.take (Int.toNat (16385 : Int)) (List.drop (0 : Nat) (List.replicate (Int.toNat (16385 : Int)) (UInt8.ofNat (Int.toNat (0 : Int))))))) →
    (ys_69 = sO (List.take (Int.toNat (16385 : Int)) (List.drop (0 : Nat) (List.replicate (Int.toNat (16385 : Int)) (UInt8.ofNat (Int.toNat (0 : Int))))))) →
    (ys_69.length = n_70) →
    br (bif v_7.snd.snd.fst == (0 : Int) then { data := (List.take v_7.snd.fst (List.drop (0 : Nat) v_7.snd.snd.snd)).toArray : ByteArray }.data.toList == { data := #[(125 : UInt8)] : ByteArray }.data.toList else false)
     (((List.take (3 : Nat) (List.drop (0 : Nat) [UInt8.ofNat (Int.toNat (1 : Int)), UInt8.ofNat (Int.toNat (125 : Int)), UInt8.ofNat (Int.toNat (126 : Int))])).length ≤ (1000000 : Nat)) ∧
      ∀ (ys_75 : List UInt8),
      ∀ (n_76 : Nat),
      (ys_75 = stf (List.take (3 : Nat) (List.drop (0 : Nat) [UInt8.ofNat (Int.toNat (1 : Int)), UInt8.ofNat (Int.toNat (125 : Int)), UInt8.ofNat (Int.toNat (126 : Int))]))) →
      (ys_75.length = n_76) →
      ∀ (n79 : Int),
      (n79 = (↑n_23 : Int)) →
      (
       ((bif bif bif true then { data := (List.take n_76 (List.drop (0 : Nat) ys_75)).toArray : ByteArray }.data.toList == { data := #[(1 : UInt8), (125 : UInt8), (93 : UInt8), (125 : UInt8), (94 : UInt8)] : ByteArray }.data.toList else false then e_21 == (0 : Int) else false then decide (n79 ≥ (11 : Int)) else false) = true) →
       ((0 : Int) ≤ (0 : Int)) ∧
       ((0 : Int) < (↑n_23 : Int))) ∧
      (
       ((bif bif bif true then { data := (List.take n_76 (List.drop (0 : Nat) ys_75)).toArray : ByteArray }.data.toList == { data := #[(1 : UInt8), (125 : UInt8), (93 : UInt8), (125 : UInt8), (94 : UInt8)] : ByteArray }.data.toList else false then e_21 == (0 : Int) else false then decide (n79 ≥ (11 : Int)) else false) = true) →
       ((0 : Nat) + Int.toNat (0 : Int) < ys_22.length)) ∧
      ∀ (n83 : Int),
      (n83 = (↑(ys_22.getD ((0 : Nat) + Int.toNat (0 : Int)) (0 : UInt8)).toNat : Int)) →
      (
       ((bif bif bif bif true then { data := (List.take n_76 (List.drop (0 : Nat) ys_75)).toArray : ByteArray }.data.toList == { data := #[(1 : UInt8), (125 : UInt8), (93 : UInt8), (125 : UInt8), (94 : UInt8)] : ByteArray }.data.toList else false then e_21 == (0 : Int) else false then decide (n79 ≥ (11 : Int)) else false then n83 == (126 : Int) else false) = true) →
       ((0 : Int) ≤ (1 : Int)) ∧
       ((1 : Int) < (↑n_23 : Int))) ∧
      (
       ((bif bif bif bif true then { data := (List.take n_76 (List.drop (0 : Nat) ys_75)).toArray : ByteArray }.data.toList == { data := #[(1 : UInt8), (125 : UInt8), (93 : UInt8), (125 : UInt8), (94 : UInt8)] : ByteArray }.data.toList else false then e_21 == (0 : Int) else false then decide (n79 ≥ (11 : Int)) else false then n83 == (126 : Int) else false) = true) →
       ((0 : Nat) + Int.toNat (1 : Int) < ys_22.length)) ∧
      ∀ (n87 : Int),
      (n87 = (↑(ys_22.getD ((0 : Nat) + Int.toNat (1 : Int)) (0 : UInt8)).toNat : Int)) →
      (
       ((bif bif bif bif bif true then { data := (List.take n_76 (List.drop (0 : Nat) ys_75)).toArray : ByteArray }.data.toList == { data := #[(1 : UInt8), (125 : UInt8), (93 : UInt8), (125 : UInt8), (94 : UInt8)] : ByteArray }.data.toList else false then e_21 == (0 : Int) else false then decide (n79 ≥ (11 : Int)) else false then n83 == (126 : Int) else false then n87 == (1 : Int) else false) = true) →
       ((0 : Int) ≤ (2 : Int)) ∧
       ((2 : Int) < (↑n_23 : Int))) ∧
      (
       ((bif bif bif bif bif true then { data := (List.take n_76 (List.drop (0 : Nat) ys_75)).toArray : ByteArray }.data.toList == { data := #[(1 : UInt8), (125 : UInt8), (93 : UInt8), (125 : UInt8), (94 : UInt8)] : ByteArray }.data.toList else false then e_21 == (0 : Int) else false then decide (n79 ≥ (11 : Int)) else false then n83 == (126 : Int) else false then n87 == (1 : Int) else false) = true) →
       ((0 : Nat) + Int.toNat (2 : Int) < ys_22.length)) ∧
      ∀ (n91 : Int),
      (n91 = (↑(ys_22.getD ((0 : Nat) + Int.toNat (2 : Int)) (0 : UInt8)).toNat : Int)) →
      ∀ (n93 : Int),
      (n93 = (↑n_23 : Int)) →
      ∀ (n95 : Int),
      (n95 = IntKind.i64.wrap (n93 - (1 : Int))) →
      (
       ((bif bif bif bif bif bif true then { data := (List.take n_76 (List.drop (0 : Nat) ys_75)).toArray : ByteArray }.data.toList == { data := #[(1 : UInt8), (125 : UInt8), (93 : UInt8), (125 : UInt8), (94 : UInt8)] : ByteArray }.data.toList else false then e_21 == (0 : Int) else false then decide (n79 ≥ (11 : Int)) else false then n83 == (126 : Int) else false then n87 == (1 : Int) else false then n91 == (2 : Int) else false) = true) →
       ((0 : Int) ≤ n95) ∧
       (n95 < (↑n_23 : Int))) ∧
      (
       ((bif bif bif bif bif bif true then { data := (List.take n_76 (List.drop (0 : Nat) ys_75)).toArray : ByteArray }.data.toList == { data := #[(1 : UInt8), (125 : UInt8), (93 : UInt8), (125 : UInt8), (94 : UInt8)] : ByteArray }.data.toList else false then e_21 == (0 : Int) else false then decide (n79 ≥ (11 : Int)) else false then n83 == (126 : Int) else false then n87 == (1 : Int) else false then n91 == (2 : Int) else false) = true) →
       ((0 : Nat) + n95.toNat < ys_22.length)) ∧
      ∀ (n99 : Int),
      (n99 = (↑(ys_22.getD ((0 : Nat) + n95.toNat) (0 : UInt8)).toNat : Int)) →
      ∀ (n101 : Int),
      (n101 = (↑n_40 : Int)) →
      ∀ (n103 : Int),
      (n103 = (↑n_23 : Int)) →
      ∀ (n105 : Int),
      (n105 = IntKind.i64.wrap ((2 : Int) + n103)) →
      ∀ (n107 : Int),
      (n107 = IntKind.i64.wrap (n105 + (3 : Int))) →
      ∀ (n109 : Int),
      (n109 = (↑n_23 : Int)) →
      ∀ (n111 : Int),
      (n111 = IntKind.i64.wrap (n107 + n109)) →
      ∀ (n113 : Int),
      (n113 = IntKind.i64.wrap (n111 - (1 : Int))) →
      ∀ (n115 : Int),
      (n115 = (↑n_48 : Int)) →
      (k (AV.bool (bif bif bif bif bif bif bif bif bif bif bif bif bif bif bif true then true else false then bif bif bif bif bif bif bif true then { data := (List.take n_76 (List.drop (0 : Nat) ys_75)).toArray : ByteArray }.data.toList == { data := #[(1 : UInt8), (125 : UInt8), (93 : UInt8), (125 : UInt8), (94 : UInt8)] : ByteArray }.data.toList else false then e_21 == (0 : Int) else false then decide (n79 ≥ (11 : Int)) else false then n83 == (126 : Int) else false then n87 == (1 : Int) else false then n91 == (2 : Int) else false then n99 == (126 : Int) else false else false then e_37 == (0 : Int) else false then n101 == (2 : Int) else false then a_38 == n113 else false then e_45 == (0 : Int) else false then n115 == (0 : Int) else false then a_46 == (1 : Int) else false then a_54 == (-1 : Int) else false then e_53 == (0 : Int) else false then (8 : Int) == (8 : Int) else false then e_61 == (3 : Int) else false then e_67 == (3 : Int) else false then (1 : Int) == (1 : Int) else false then (1 : Int) == (1 : Int) else false)) [] []))
     ((false = false) ∧
      ∀ (n117 : Int),
      (n117 = (↑n_23 : Int)) →
      (
       ((bif bif false then e_21 == (0 : Int) else false then decide (n117 ≥ (11 : Int)) else false) = true) →
       ((0 : Int) ≤ (0 : Int)) ∧
       ((0 : Int) < (↑n_23 : Int))) ∧
      (
       ((bif bif false then e_21 == (0 : Int) else false then decide (n117 ≥ (11 : Int)) else false) = true) →
       ((0 : Nat) + Int.toNat (0 : Int) < ys_22.length)) ∧
      ∀ (n121 : Int),
      (n121 = (↑(ys_22.getD ((0 : Nat) + Int.toNat (0 : Int)) (0 : UInt8)).toNat : Int)) →
      (
       ((bif bif bif false then e_21 == (0 : Int) else false then decide (n117 ≥ (11 : Int)) else false then n121 == (126 : Int) else false) = true) →
       ((0 : Int) ≤ (1 : Int)) ∧
       ((1 : Int) < (↑n_23 : Int))) ∧
      (
       ((bif bif bif false then e_21 == (0 : Int) else false then decide (n117 ≥ (11 : Int)) else false then n121 == (126 : Int) else false) = true) →
       ((0 : Nat) + Int.toNat (1 : Int) < ys_22.length)) ∧
      ∀ (n125 : Int),
      (n125 = (↑(ys_22.getD ((0 : Nat) + Int.toNat (1 : Int)) (0 : UInt8)).toNat : Int)) →
      (
       ((bif bif bif bif false then e_21 == (0 : Int) else false then decide (n117 ≥ (11 : Int)) else false then n121 == (126 : Int) else false then n125 == (1 : Int) else false) = true) →
       ((0 : Int) ≤ (2 : Int)) ∧
       ((2 : Int) < (↑n_23 : Int))) ∧
      (
       ((bif bif bif bif false then e_21 == (0 : Int) else false then decide (n117 ≥ (11 : Int)) else false then n121 == (126 : Int) else false then n125 == (1 : Int) else false) = true) →
       ((0 : Nat) + Int.toNat (2 : Int) < ys_22.length)) ∧
      ∀ (n129 : Int),
      (n129 = (↑(ys_22.getD ((0 : Nat) + Int.toNat (2 : Int)) (0 : UInt8)).toNat : Int)) →
      ∀ (n131 : Int),
      (n131 = (↑n_23 : Int)) →
      ∀ (n133 : Int),
      (n133 = IntKind.i64.wrap (n131 - (1 : Int))) →
      (
       ((bif bif bif bif bif false then e_21 == (0 : Int) else false then decide (n117 ≥ (11 : Int)) else false then n121 == (126 : Int) else false then n125 == (1 : Int) else false then n129 == (2 : Int) else false) = true) →
       ((0 : Int) ≤ n133) ∧
       (n133 < (↑n_23 : Int))) ∧
      (
       ((bif bif bif bif bif false then e_21 == (0 : Int) else false then decide (n117 ≥ (11 : Int)) else false then n121 == (126 : Int) else false then n125 == (1 : Int) else false then n129 == (2 : Int) else false) = true) →
       ((0 : Nat) + n133.toNat < ys_22.length)) ∧
      ∀ (n137 : Int),
      (n137 = (↑(ys_22.getD ((0 : Nat) + n133.toNat) (0 : UInt8)).toNat : Int)) →
      ∀ (n139 : Int),
      (n139 = (↑n_40 : Int)) →
      ∀ (n141 : Int),
      (n141 = (↑n_23 : Int)) →
      ∀ (n143 : Int),
      (n143 = IntKind.i64.wrap ((2 : Int) + n141)) →
      ∀ (n145 : Int),
      (n145 = IntKind.i64.wrap (n143 + (3 : Int))) →
      ∀ (n147 : Int),
      (n147 = (↑n_23 : Int)) →
      ∀ (n149 : Int),
      (n149 = IntKind.i64.wrap (n145 + n147)) →
      ∀ (n151 : Int),
      (n151 = IntKind.i64.wrap (n149 - (1 : Int))) →
      ∀ (n153 : Int),
      (n153 = (↑n_48 : Int)) →
      (k (AV.bool (bif bif bif bif bif bif bif bif bif bif bif bif bif bif bif true then true else false then bif bif bif bif bif bif false then e_21 == (0 : Int) else false then decide (n117 ≥ (11 : Int)) else false then n121 == (126 : Int) else false then n125 == (1 : Int) else false then n129 == (2 : Int) else false then n137 == (126 : Int) else false else false then e_37 == (0 : Int) else false then n139 == (2 : Int) else false then a_38 == n151 else false then e_45 == (0 : Int) else false then n153 == (0 : Int) else false then a_46 == (1 : Int) else false then a_54 == (-1 : Int) else false then e_53 == (0 : Int) else false then (8 : Int) == (8 : Int) else false then e_61 == (3 : Int) else false then e_67 == (3 : Int) else false then (1 : Int) == (1 : Int) else false then (1 : Int) == (1 : Int) else false)) [] []))) := by
  refine ⟨by decide, ?_⟩ -- (List.take (2 : Nat) (List.drop (0 : Nat) [UInt8.ofNat (Int.toNat (125 : Int)), UInt8.ofNat (Int.toNat (93 : Int))])).length ≤ (1000000 : Nat)
  intro e_1
  intro ys_2
  intro n_3
  intro h1 -- e_1 = bE (List.take (2 : Nat) (List.drop (0 : Nat) [UInt8.ofNat (Int.toNat (125 : Int)), UInt8.ofNat (Int.toNat (93 : Int))]))
  intro h2 -- ys_2 = bO (List.take (2 : Nat) (List.drop (0 : Nat) [UInt8.ofNat (Int.toNat (125 : Int)), UInt8.ofNat (Int.toNat (93 : Int))]))
  intro h3 -- ys_2.length = n_3
  refine ⟨?_, ?_⟩
  · -- left
    refine ⟨((0 : Int), n_3, e_1, ys_2), ?_⟩
    refine ⟨by first | with_reducible rfl | rfl, ?_⟩ -- (0 : Nat) = (0 : Nat)
    refine ⟨by first | with_reducible rfl | rfl, ?_⟩ -- n_3 = n_3
    refine ⟨by first | with_reducible rfl | rfl, ?_⟩ -- e_1 = e_1
    refine ⟨by first | with_reducible rfl | rfl, ?_⟩ -- (0 : Nat) = (0 : Nat)
    refine ⟨by first | with_reducible rfl | rfl, ?_⟩ -- (4 : Nat) = (4 : Nat)
    refine ⟨by first | with_reducible rfl | rfl, ?_⟩ -- (0 : Int) = (0 : Int)
    refine ⟨by first | with_reducible rfl | rfl, ?_⟩ -- ys_2 = ys_2
    refine ⟨by show [List.take (1 : Nat) (List.drop (0 : Nat) [UInt8.ofNat (Int.toNat (125 : Int))]), List.take (1 : Nat) (List.drop (0 : Nat) [UInt8.ofNat (Int.toNat (126 : Int))]), List.take (2 : Nat) (List.drop (0 : Nat) [UInt8.ofNat (Int.toNat (125 : Int)), UInt8.ofNat (Int.toNat (1 : Int))]), List.take (3 : Nat) (List.drop (0 : Nat) [UInt8.ofNat (Int.toNat (125 : Int)), UInt8.ofNat (Int.toNat (125 : Int)), UInt8.ofNat (Int.toNat (93 : Int))])] = badL; decide, ?_⟩ -- [List.take (1 : Nat) (List.drop (0 : Nat) [UInt8.ofNat (Int.toNat (125 : Int))]), List.take (1 : Nat) (List.drop (0 : Nat) [UInt8.ofNat (Int.toNat (126 : Int))]), List.take (2 : Nat) (List.drop (0 : Nat) [UInt8.ofNat (Int.toNat (125 : Int)), UInt8.ofNat (Int.toNat (1 : Int))]), List.take (3 : Nat) (List.drop (0 : Nat) [UInt8.ofNat (Int.toNat (125 : Int)), UInt8.ofNat (Int.toNat (125 : Int)), UInt8.ofNat (Int.toNat (93 : Int))])] = badL
    refine ⟨by first | omega | (dsimp only; omega), ?_⟩ -- (0 : Int) ≤ (0 : Int) ∧ (0 : Int) ≤ (4 : Int)
    have h4 : n_3 = (1 : Nat) := by
      rw [← h3, h2]; decide +kernel
    refine ⟨h4, ?_⟩
    refine ⟨by show e_1 = (0 : Int); assumption, ?_⟩ -- e_1 = (0 : Int)
    exact by show ys_2 = [(125 : UInt8)]; assumption -- ys_2 = [(125 : UInt8)]
  intro v_7
  intro h5 -- ((0 : Int) ≤ v_7.fst ∧ v_7.fst ≤ (4 : Int)) ∧ v_7.snd.fst = (1 : Nat) ∧ v_7.snd.snd.fst = (0 : Int) ∧ v_7.snd.snd.snd = [(125 : UInt8)]
  intro n9
  intro q9 -- n9 = (↑(4 : Nat) : Int)
  intro ⟨l9, u9⟩ -- (-9223372036854775808 : Int) ≤ n9 ∧ n9 ≤ (9223372036854775807 : Int)
  refine brd (fun c6 => ?_) (fun c6 => ?_) -- decide (v_7.fst < n9)
  · -- yes
    refine ⟨by first | omega | (dsimp only; omega), ?_⟩ -- (0 : Int) ≤ v_7.fst
    refine ⟨by first | omega | (dsimp only; omega), ?_⟩ -- v_7.fst < (↑(4 : Nat) : Int)
    have h7 : (0 : Nat) + v_7.fst.toNat < badL.length := by
      show 0 + v_7.fst.toNat < 4
      omega
    refine ⟨h7, ?_⟩
    have h8 : (badL.getD ((0 : Nat) + v_7.fst.toNat) (dflt (6 : Nat))).length ≤ (1000000 : Nat) := by
      rw [Nat.zero_add]; exact bad_len (by omega) (by omega)
    refine ⟨h8, ?_⟩
    intro e_12
    intro ys_13
    intro n_14
    intro h9 -- e_12 = bE (badL.getD ((0 : Nat) + v_7.fst.toNat) (dflt (6 : Nat)))
    intro h10 -- ys_13 = bO (badL.getD ((0 : Nat) + v_7.fst.toNat) (dflt (6 : Nat)))
    intro h11 -- ys_13.length = n_14
    refine br_intro (fun c12 => ?_) (fun c12 => ?_) -- e_12 != (8 : Int)
    · -- yes
      simp at c12 -- ¬e_12 = (8 : Int)
      -- k (AV.bool false) [] []
      exact absurd (by rw [h9, Nat.zero_add]; unfold bE; rw [bad_at (by omega) (by omega)]; rfl) c12
    · -- no
      simp at c12 -- e_12 = (8 : Int)
      intro n18
      intro q18 -- n18 = IntKind.i64.wrap (v_7.fst + (1 : Int))
      rw [IntKind.wrap_i64] at q18
      intro ⟨l18, u18⟩ -- (-9223372036854775808 : Int) ≤ n18 ∧ n18 ≤ (9223372036854775807 : Int)
      refine ⟨(n18, v_7.snd.fst, v_7.snd.snd.fst, v_7.snd.snd.snd), ?_⟩
      refine ⟨by first | with_reducible rfl | rfl, ?_⟩ -- (0 : Nat) = (0 : Nat)
      refine ⟨by first | with_reducible rfl | rfl, ?_⟩ -- v_7.snd.fst = v_7.snd.fst
      refine ⟨by first | with_reducible rfl | rfl, ?_⟩ -- v_7.snd.snd.fst = v_7.snd.snd.fst
      refine ⟨by first | with_reducible rfl | rfl, ?_⟩ -- (0 : Nat) = (0 : Nat)
      refine ⟨by first | with_reducible rfl | rfl, ?_⟩ -- (4 : Nat) = (4 : Nat)
      refine ⟨by first | with_reducible rfl | rfl, ?_⟩ -- n18 = n18
      refine ⟨by first | with_reducible rfl | rfl, ?_⟩ -- v_7.snd.snd.snd = v_7.snd.snd.snd
      refine ⟨by first | with_reducible rfl | rfl, ?_⟩ -- badL = badL
      refine ⟨?_, ?_⟩
      · -- left
        refine ⟨by first | omega | (dsimp only; omega), ?_⟩ -- (0 : Int) ≤ n18 ∧ n18 ≤ (4 : Int)
        refine ⟨by show v_7.snd.fst = (1 : Nat); omega, ?_⟩ -- v_7.snd.fst = (1 : Nat)
        refine ⟨by show v_7.snd.snd.fst = (0 : Int); omega, ?_⟩ -- v_7.snd.snd.fst = (0 : Int)
        -- v_7.snd.snd.snd = [(125 : UInt8)]
        exact h5.2.2.2
      exact by show ((4 : Int) - n18).toNat < ((4 : Int) - v_7.fst).toNat; omega -- ((4 : Int) - n18).toNat < ((4 : Int) - v_7.fst).toNat
  · -- no
    refine ⟨by first | omega | (dsimp only; omega), ?_⟩ -- (0 : Int) ≤ (1 : Int) ∧ (1 : Int) ≤ (255 : Int)
    refine ⟨by first | omega | (dsimp only; omega), ?_⟩ -- (0 : Int) ≤ (2 : Int) ∧ (2 : Int) ≤ (4294967295 : Int)
    intro e_21
    intro ys_22
    intro n_23
    intro h13 -- e_21 = wE []
    intro h14 -- ys_22 = wO (1 : Int) (2 : Int) []
    intro h15 -- ys_22.length = n_23
    have h16 : ((2 : Nat) + n_23) * (1 : Nat) ≤ (140737488355328 : Nat) := by
      have B : ys_22.length ≤ 1100 := by rw [h14]; decide +kernel
      omega
    refine ⟨h16, ?_⟩
    intro z27
    intro qz27 -- z27 = List.take (2 : Nat) [UInt8.ofNat (Int.toNat (7 : Int)), UInt8.ofNat (Int.toNat (7 : Int))] ++ List.take n_23 (List.drop (0 : Nat) ys_22)
    have h17 : ((2 : Nat) + n_23 + (3 : Nat)) * (1 : Nat) ≤ (140737488355328 : Nat) := by
      have B : ys_22.length ≤ 1100 := by rw [h14]; decide +kernel
      omega
    refine ⟨h17, ?_⟩
    intro z29
    intro qz29 -- z29 = List.take ((2 : Nat) + n_23) z27 ++ List.take (3 : Nat) (List.drop (0 : Nat) [UInt8.ofNat (Int.toNat (126 : Int)), UInt8.ofNat (Int.toNat (1 : Int)), UInt8.ofNat (Int.toNat (126 : Int))])
    refine ⟨by first | omega | (dsimp only; omega), ?_⟩ -- n_23 * (1 : Nat) ≤ (140737488355328 : Nat)
    intro z31
    intro qz31 -- z31 = List.take n_23 (List.drop (0 : Nat) ys_22)
    refine ⟨by first | omega | (dsimp only; omega), ?_⟩ -- (n_23 + (1 : Nat)) * (1 : Nat) ≤ (140737488355328 : Nat)
    intro z33
    intro qz33 -- z33 = List.take n_23 z31 ++ List.take (1 : Nat) (List.drop (0 : Nat) [UInt8.ofNat (Int.toNat (9 : Int))])
    have h18 : ((2 : Nat) + n_23 + (3 : Nat) + (n_23 + (1 : Nat))) * (1 : Nat) ≤ (140737488355328 : Nat) := by
      have B : ys_22.length ≤ 1100 := by rw [h14]; decide +kernel
      omega
    refine ⟨h18, ?_⟩
    intro z35
    intro qz35 -- z35 = List.take ((2 : Nat) + n_23 + (3 : Nat)) z29 ++ List.take (n_23 + (1 : Nat)) (List.drop (0 : Nat) z33)
    intro e_37
    intro a_38
    intro ys_39
    intro n_40
    intro h19 -- e_37 = sE (List.take ((2 : Nat) + n_23 + (3 : Nat) + (n_23 + (1 : Nat))) (List.drop (0 : Nat) z35))
    intro h20 -- a_38 = sA (List.take ((2 : Nat) + n_23 + (3 : Nat) + (n_23 + (1 : Nat))) (List.drop (0 : Nat) z35))
    intro h21 -- ys_39 = sO (List.take ((2 : Nat) + n_23 + (3 : Nat) + (n_23 + (1 : Nat))) (List.drop (0 : Nat) z35))
    intro h22 -- ys_39.length = n_40
    intro e_45
    intro a_46
    intro ys_47
    intro n_48
    intro h23 -- e_45 = sE (List.take (2 : Nat) (List.drop (0 : Nat) [UInt8.ofNat (Int.toNat (126 : Int)), UInt8.ofNat (Int.toNat (126 : Int))]))
    intro h24 -- a_46 = sA (List.take (2 : Nat) (List.drop (0 : Nat) [UInt8.ofNat (Int.toNat (126 : Int)), UInt8.ofNat (Int.toNat (126 : Int))]))
    intro h25 -- ys_47 = sO (List.take (2 : Nat) (List.drop (0 : Nat) [UInt8.ofNat (Int.toNat (126 : Int)), UInt8.ofNat (Int.toNat (126 : Int))]))
    intro h26 -- ys_47.length = n_48
    intro e_53
    intro a_54
    intro ys_55
    intro n_56
    intro h27 -- e_53 = sE []
    intro h28 -- a_54 = sA []
    intro h29 -- ys_55 = sO []
    intro h30 -- ys_55.length = n_56
    refine ⟨?_, ?_⟩
    · -- left
      refine ⟨by first | omega | (dsimp only; omega), ?_⟩ -- (0 : Int) ≤ (513 : Int)
      refine ⟨by first | omega | (dsimp only; omega), ?_⟩ -- (513 : Int) ≤ (513 : Int)
      exact by omega -- (513 : Int) * (↑(1 : Nat) : Int) ≤ (140737488355328 : Int)
    refine ⟨by first | omega | (dsimp only; omega), ?_⟩ -- (0 : Int) ≤ (0 : Int) ∧ (0 : Int) ≤ (255 : Int)
    refine ⟨by first | omega | (dsimp only; omega), ?_⟩ -- (0 : Int) ≤ (0 : Int) ∧ (0 : Int) ≤ (4294967295 : Int)
    intro e_61
    intro ys_62
    intro n_63
    intro h31 -- e_61 = wE (List.take (Int.toNat (513 : Int)) (List.drop (0 : Nat) (List.replicate (Int.toNat (513 : Int)) (UInt8.ofNat (Int.toNat (0 : Int))))))
    intro h32 -- ys_62 = wO (0 : Int) (0 : Int) (List.take (Int.toNat (513 : Int)) (List.drop (0 : Nat) (List.replicate (Int.toNat (513 : Int)) (UInt8.ofNat (Int.toNat (0 : Int))))))
    intro h33 -- ys_62.length = n_63
    refine ⟨?_, ?_⟩
    · -- left
      refine ⟨by first | omega | (dsimp only; omega), ?_⟩ -- (0 : Int) ≤ (16385 : Int)
      refine ⟨by first | omega | (dsimp only; omega), ?_⟩ -- (16385 : Int) ≤ (16385 : Int)
      exact by omega -- (16385 : Int) * (↑(1 : Nat) : Int) ≤ (140737488355328 : Int)
    intro e_67
    intro a_68
    intro ys_69
    intro n_70
    intro h34 -- e_67 = sE (List.take (Int.toNat (16385 : Int)) (List.drop (0 : Nat) (List.replicate (Int.toNat (16385 : Int)) (UInt8.ofNat (Int.toNat (0 : Int))))))
    intro h35 -- a_68 = sA (List.take (Int.toNat (16385 : Int)) (List.drop (0 : Nat) (List.replicate (Int.toNat (16385 : Int)) (UInt8.ofNat (Int.toNat (0 : Int))))))
    intro h36 -- ys_69 = sO (List.take (Int.toNat (16385 : Int)) (List.drop (0 : Nat) (List.replicate (Int.toNat (16385 : Int)) (UInt8.ofNat (Int.toNat (0 : Int))))))
    intro h37 -- ys_69.length = n_70
    refine br_intro (fun c38 => ?_) (fun c38 => ?_) -- bif v_7.snd.snd.fst == (0 : Int) then { data := (List.take v_7.snd.fst (List.drop (0 : Nat) v_7.snd.snd.snd)).toArray : ByteArray }.data.toList == { data := #[(125 : UInt8)] : ByteArray }.data.toList else false
    · -- yes
      simp at c38 -- v_7.snd.snd.fst = (0 : Int) ∧ List.take v_7.snd.fst v_7.snd.snd.snd = [(125 : UInt8)]
      refine ⟨by decide, ?_⟩ -- (List.take (3 : Nat) (List.drop (0 : Nat) [UInt8.ofNat (Int.toNat (1 : Int)), UInt8.ofNat (Int.toNat (125 : Int)), UInt8.ofNat (Int.toNat (126 : Int))])).length ≤ (1000000 : Nat)
      intro ys_75
      intro n_76
      intro h39 -- ys_75 = stf (List.take (3 : Nat) (List.drop (0 : Nat) [UInt8.ofNat (Int.toNat (1 : Int)), UInt8.ofNat (Int.toNat (125 : Int)), UInt8.ofNat (Int.toNat (126 : Int))]))
      intro h40 -- ys_75.length = n_76
      intro n79
      intro q79 -- n79 = (↑n_23 : Int)
      refine ⟨?_, ?_⟩
      · -- left
        intro q79 -- (bif bif bif true then { data := (List.take n_76 (List.drop (0 : Nat) ys_75)).toArray : ByteArray }.data.toList == { data := #[(1 : UInt8), (125 : UInt8), (93 : UInt8), (125 : UInt8), (94 : UInt8)] : ByteArray }.data.toList else false then e_21 == (0 : Int) else false then decide (n79 ≥ (11 : Int)) else false) = true
        simp at q79 -- (List.take n_76 ys_75 = [(1 : UInt8), (125 : UInt8), (93 : UInt8), (125 : UInt8), (94 : UInt8)] ∧ e_21 = (0 : Int)) ∧ (11 : Int) ≤ n79
        refine ⟨by first | omega | (dsimp only; omega), ?_⟩ -- (0 : Int) ≤ (0 : Int)
        exact by omega -- (0 : Int) < (↑n_23 : Int)
      refine ⟨?_, ?_⟩
      · -- left
        intro q79 -- (bif bif bif true then { data := (List.take n_76 (List.drop (0 : Nat) ys_75)).toArray : ByteArray }.data.toList == { data := #[(1 : UInt8), (125 : UInt8), (93 : UInt8), (125 : UInt8), (94 : UInt8)] : ByteArray }.data.toList else false then e_21 == (0 : Int) else false then decide (n79 ≥ (11 : Int)) else false) = true
        simp at q79 -- (List.take n_76 ys_75 = [(1 : UInt8), (125 : UInt8), (93 : UInt8), (125 : UInt8), (94 : UInt8)] ∧ e_21 = (0 : Int)) ∧ (11 : Int) ≤ n79
        exact by omega -- (0 : Nat) + Int.toNat (0 : Int) < ys_22.length
      intro n83
      intro q83 -- n83 = (↑(ys_22.getD ((0 : Nat) + Int.toNat (0 : Int)) (0 : UInt8)).toNat : Int)
      refine ⟨?_, ?_⟩
      · -- left
        intro q83 -- (bif bif bif bif true then { data := (List.take n_76 (List.drop (0 : Nat) ys_75)).toArray : ByteArray }.data.toList == { data := #[(1 : UInt8), (125 : UInt8), (93 : UInt8), (125 : UInt8), (94 : UInt8)] : ByteArray }.data.toList else false then e_21 == (0 : Int) else false then decide (n79 ≥ (11 : Int)) else false then n83 == (126 : Int) else false) = true
        simp at q83 -- ((List.take n_76 ys_75 = [(1 : UInt8), (125 : UInt8), (93 : UInt8), (125 : UInt8), (94 : UInt8)] ∧ e_21 = (0 : Int)) ∧ (11 : Int) ≤ n79) ∧ n83 = (126 : Int)
        refine ⟨by first | omega | (dsimp only; omega), ?_⟩ -- (0 : Int) ≤ (1 : Int)
        exact by omega -- (1 : Int) < (↑n_23 : Int)
      refine ⟨?_, ?_⟩
      · -- left
        intro q83 -- (bif bif bif bif true then { data := (List.take n_76 (List.drop (0 : Nat) ys_75)).toArray : ByteArray }.data.toList == { data := #[(1 : UInt8), (125 : UInt8), (93 : UInt8), (125 : UInt8), (94 : UInt8)] : ByteArray }.data.toList else false then e_21 == (0 : Int) else false then decide (n79 ≥ (11 : Int)) else false then n83 == (126 : Int) else false) = true
        simp at q83 -- ((List.take n_76 ys_75 = [(1 : UInt8), (125 : UInt8), (93 : UInt8), (125 : UInt8), (94 : UInt8)] ∧ e_21 = (0 : Int)) ∧ (11 : Int) ≤ n79) ∧ n83 = (126 : Int)
        exact by omega -- (0 : Nat) + Int.toNat (1 : Int) < ys_22.length
      intro n87
      intro q87 -- n87 = (↑(ys_22.getD ((0 : Nat) + Int.toNat (1 : Int)) (0 : UInt8)).toNat : Int)
      refine ⟨?_, ?_⟩
      · -- left
        intro q87 -- (bif bif bif bif bif true then { data := (List.take n_76 (List.drop (0 : Nat) ys_75)).toArray : ByteArray }.data.toList == { data := #[(1 : UInt8), (125 : UInt8), (93 : UInt8), (125 : UInt8), (94 : UInt8)] : ByteArray }.data.toList else false then e_21 == (0 : Int) else false then decide (n79 ≥ (11 : Int)) else false then n83 == (126 : Int) else false then n87 == (1 : Int) else false) = true
        simp at q87 -- (((List.take n_76 ys_75 = [(1 : UInt8), (125 : UInt8), (93 : UInt8), (125 : UInt8), (94 : UInt8)] ∧ e_21 = (0 : Int)) ∧ (11 : Int) ≤ n79) ∧ n83 = (126 : Int)) ∧ n87 = (1 : Int)
        refine ⟨by first | omega | (dsimp only; omega), ?_⟩ -- (0 : Int) ≤ (2 : Int)
        exact by omega -- (2 : Int) < (↑n_23 : Int)
      refine ⟨?_, ?_⟩
      · -- left
        intro q87 -- (bif bif bif bif bif true then { data := (List.take n_76 (List.drop (0 : Nat) ys_75)).toArray : ByteArray }.data.toList == { data := #[(1 : UInt8), (125 : UInt8), (93 : UInt8), (125 : UInt8), (94 : UInt8)] : ByteArray }.data.toList else false then e_21 == (0 : Int) else false then decide (n79 ≥ (11 : Int)) else false then n83 == (126 : Int) else false then n87 == (1 : Int) else false) = true
        simp at q87 -- (((List.take n_76 ys_75 = [(1 : UInt8), (125 : UInt8), (93 : UInt8), (125 : UInt8), (94 : UInt8)] ∧ e_21 = (0 : Int)) ∧ (11 : Int) ≤ n79) ∧ n83 = (126 : Int)) ∧ n87 = (1 : Int)
        exact by omega -- (0 : Nat) + Int.toNat (2 : Int) < ys_22.length
      intro n91
      intro q91 -- n91 = (↑(ys_22.getD ((0 : Nat) + Int.toNat (2 : Int)) (0 : UInt8)).toNat : Int)
      intro n93
      intro q93 -- n93 = (↑n_23 : Int)
      intro n95
      intro q95 -- n95 = IntKind.i64.wrap (n93 - (1 : Int))
      rw [IntKind.wrap_i64] at q95
      refine ⟨?_, ?_⟩
      · -- left
        intro q95 -- (bif bif bif bif bif bif true then { data := (List.take n_76 (List.drop (0 : Nat) ys_75)).toArray : ByteArray }.data.toList == { data := #[(1 : UInt8), (125 : UInt8), (93 : UInt8), (125 : UInt8), (94 : UInt8)] : ByteArray }.data.toList else false then e_21 == (0 : Int) else false then decide (n79 ≥ (11 : Int)) else false then n83 == (126 : Int) else false then n87 == (1 : Int) else false then n91 == (2 : Int) else false) = true
        simp at q95 -- ((((List.take n_76 ys_75 = [(1 : UInt8), (125 : UInt8), (93 : UInt8), (125 : UInt8), (94 : UInt8)] ∧ e_21 = (0 : Int)) ∧ (11 : Int) ≤ n79) ∧ n83 = (126 : Int)) ∧ n87 = (1 : Int)) ∧ n91 = (2 : Int)
        refine ⟨by first | omega | (dsimp only; omega), ?_⟩ -- (0 : Int) ≤ n95
        exact by omega -- n95 < (↑n_23 : Int)
      refine ⟨?_, ?_⟩
      · -- left
        intro q95 -- (bif bif bif bif bif bif true then { data := (List.take n_76 (List.drop (0 : Nat) ys_75)).toArray : ByteArray }.data.toList == { data := #[(1 : UInt8), (125 : UInt8), (93 : UInt8), (125 : UInt8), (94 : UInt8)] : ByteArray }.data.toList else false then e_21 == (0 : Int) else false then decide (n79 ≥ (11 : Int)) else false then n83 == (126 : Int) else false then n87 == (1 : Int) else false then n91 == (2 : Int) else false) = true
        simp at q95 -- ((((List.take n_76 ys_75 = [(1 : UInt8), (125 : UInt8), (93 : UInt8), (125 : UInt8), (94 : UInt8)] ∧ e_21 = (0 : Int)) ∧ (11 : Int) ≤ n79) ∧ n83 = (126 : Int)) ∧ n87 = (1 : Int)) ∧ n91 = (2 : Int)
        exact by omega -- (0 : Nat) + n95.toNat < ys_22.length
      intro n99
      intro q99 -- n99 = (↑(ys_22.getD ((0 : Nat) + n95.toNat) (0 : UInt8)).toNat : Int)
      intro n101
      intro q101 -- n101 = (↑n_40 : Int)
      intro n103
      intro q103 -- n103 = (↑n_23 : Int)
      intro n105
      intro q105 -- n105 = IntKind.i64.wrap ((2 : Int) + n103)
      rw [IntKind.wrap_i64] at q105
      intro n107
      intro q107 -- n107 = IntKind.i64.wrap (n105 + (3 : Int))
      rw [IntKind.wrap_i64] at q107
      intro n109
      intro q109 -- n109 = (↑n_23 : Int)
      intro n111
      intro q111 -- n111 = IntKind.i64.wrap (n107 + n109)
      rw [IntKind.wrap_i64] at q111
      intro n113
      intro q113 -- n113 = IntKind.i64.wrap (n111 - (1 : Int))
      rw [IntKind.wrap_i64] at q113
      intro n115
      intro q115 -- n115 = (↑n_48 : Int)
      -- k (AV.bool (bif bif bif bif bif bif bif bif bif bif bif bif bif bif bif true then true else false then bif bif bif bif bif bif bif true then { data := (List.take n_76 (List.drop (0 : Nat) ys_75)).toArray : ByteArray }.data.toList == { data := #[(1 : UInt8), (125 : UInt8), (93 : UInt8), (125 : UInt8), (94 : UInt8)] : ByteArray }.data.toList else false then e_21 == (0 : Int) else false then decide (n79 ≥ (11 : Int)) else false then n83 == (126 : Int) else false then n87 == (1 : Int) else false then n91 == (2 : Int) else false then n99 == (126 : Int) else false else false then e_37 == (0 : Int) else false then n101 == (2 : Int) else false then a_38 == n113 else false then e_45 == (0 : Int) else false then n115 == (0 : Int) else false then a_46 == (1 : Int) else false then a_54 == (-1 : Int) else false then e_53 == (0 : Int) else false then (8 : Int) == (8 : Int) else false then e_61 == (3 : Int) else false then e_67 == (3 : Int) else false then (1 : Int) == (1 : Int) else false then (1 : Int) == (1 : Int) else false)) [] []
      have A0 : List.take (2 + n_23 + 3 + (n_23 + 1)) (List.drop 0 z35) = [7, 7] ++ wO 1 2 [] ++ [126, 1, 126] ++ (wO 1 2 [] ++ [9]) := by
        rw [qz35, qz33, qz31, qz29, qz27, ← h15, h14]; decide +kernel
      rw [A0] at h19 h20 h21
      have E21 : e_21 = 0 := h13.trans (by decide +kernel)
      have E37 : e_37 = 0 := h19.trans (by decide +kernel)
      have N40 : n_40 = 2 := by rw [← h22, h21]; decide +kernel
      have E45 : e_45 = 0 := h23.trans (by decide +kernel)
      have A46 : a_46 = 1 := h24.trans (by decide +kernel)
      have N48 : n_48 = 0 := by rw [← h26, h25]; decide +kernel
      have E53 : e_53 = 0 := h27.trans (by decide +kernel)
      have A54 : a_54 = -1 := h28.trans (by decide +kernel)
      have E61 : e_61 = 3 := by
        rw [h31]; unfold wE; simp only [List.drop_zero, List.length_take, List.length_replicate, Nat.min_self]; decide +kernel
      have E67 : e_67 = 3 := by
        rw [h34]; unfold sE; simp only [List.drop_zero, List.length_take, List.length_replicate, Nat.min_self]; decide +kernel
      have N23 : n_23 = (wO 1 2 []).length := by rw [← h15, h14]
      have Y75 : List.take n_76 (List.drop 0 ys_75) = [1, 125, 93, 125, 94] := by rw [← h40, h39]; decide +kernel
      exact k_true hk (by
        simp only [q115, q113, q111, q109, q107, q105, q103, q101, q99, q95, q93, q91, q87, q83, q79, E21, E37, N40, E45, A46, N48, E53, A54, E61, E67, Y75, h20, N23, h14]
        decide +kernel)
    · -- no
      simp at c38 -- v_7.snd.snd.fst = (0 : Int) → ¬List.take v_7.snd.fst v_7.snd.snd.snd = [(125 : UInt8)]
      refine ⟨by with_reducible rfl, ?_⟩ -- false = false
      intro n117
      intro q117 -- n117 = (↑n_23 : Int)
      refine ⟨?_, ?_⟩
      · -- left
        intro q117 -- (bif bif false then e_21 == (0 : Int) else false then decide (n117 ≥ (11 : Int)) else false) = true
        simp at q117
      refine ⟨?_, ?_⟩
      · -- left
        intro q117 -- (bif bif false then e_21 == (0 : Int) else false then decide (n117 ≥ (11 : Int)) else false) = true
        simp at q117
      intro n121
      intro q121 -- n121 = (↑(ys_22.getD ((0 : Nat) + Int.toNat (0 : Int)) (0 : UInt8)).toNat : Int)
      refine ⟨?_, ?_⟩
      · -- left
        intro q121 -- (bif bif bif false then e_21 == (0 : Int) else false then decide (n117 ≥ (11 : Int)) else false then n121 == (126 : Int) else false) = true
        simp at q121
      refine ⟨?_, ?_⟩
      · -- left
        intro q121 -- (bif bif bif false then e_21 == (0 : Int) else false then decide (n117 ≥ (11 : Int)) else false then n121 == (126 : Int) else false) = true
        simp at q121
      intro n125
      intro q125 -- n125 = (↑(ys_22.getD ((0 : Nat) + Int.toNat (1 : Int)) (0 : UInt8)).toNat : Int)
      refine ⟨?_, ?_⟩
      · -- left
        intro q125 -- (bif bif bif bif false then e_21 == (0 : Int) else false then decide (n117 ≥ (11 : Int)) else false then n121 == (126 : Int) else false then n125 == (1 : Int) else false) = true
        simp at q125
      refine ⟨?_, ?_⟩
      · -- left
        intro q125 -- (bif bif bif bif false then e_21 == (0 : Int) else false then decide (n117 ≥ (11 : Int)) else false then n121 == (126 : Int) else false then n125 == (1 : Int) else false) = true
        simp at q125
      intro n129
      intro q129 -- n129 = (↑(ys_22.getD ((0 : Nat) + Int.toNat (2 : Int)) (0 : UInt8)).toNat : Int)
      intro n131
      intro q131 -- n131 = (↑n_23 : Int)
      intro n133
      intro q133 -- n133 = IntKind.i64.wrap (n131 - (1 : Int))
      rw [IntKind.wrap_i64] at q133
      refine ⟨?_, ?_⟩
      · -- left
        intro q133 -- (bif bif bif bif bif false then e_21 == (0 : Int) else false then decide (n117 ≥ (11 : Int)) else false then n121 == (126 : Int) else false then n125 == (1 : Int) else false then n129 == (2 : Int) else false) = true
        simp at q133
      refine ⟨?_, ?_⟩
      · -- left
        intro q133 -- (bif bif bif bif bif false then e_21 == (0 : Int) else false then decide (n117 ≥ (11 : Int)) else false then n121 == (126 : Int) else false then n125 == (1 : Int) else false then n129 == (2 : Int) else false) = true
        simp at q133
      intro n137
      intro q137 -- n137 = (↑(ys_22.getD ((0 : Nat) + n133.toNat) (0 : UInt8)).toNat : Int)
      intro n139
      intro q139 -- n139 = (↑n_40 : Int)
      intro n141
      intro q141 -- n141 = (↑n_23 : Int)
      intro n143
      intro q143 -- n143 = IntKind.i64.wrap ((2 : Int) + n141)
      rw [IntKind.wrap_i64] at q143
      intro n145
      intro q145 -- n145 = IntKind.i64.wrap (n143 + (3 : Int))
      rw [IntKind.wrap_i64] at q145
      intro n147
      intro q147 -- n147 = (↑n_23 : Int)
      intro n149
      intro q149 -- n149 = IntKind.i64.wrap (n145 + n147)
      rw [IntKind.wrap_i64] at q149
      intro n151
      intro q151 -- n151 = IntKind.i64.wrap (n149 - (1 : Int))
      rw [IntKind.wrap_i64] at q151
      intro n153
      intro q153 -- n153 = (↑n_48 : Int)
      -- k (AV.bool (bif bif bif bif bif bif bif bif bif bif bif bif bif bif bif true then true else false then bif bif bif bif bif bif false then e_21 == (0 : Int) else false then decide (n117 ≥ (11 : Int)) else false then n121 == (126 : Int) else false then n125 == (1 : Int) else false then n129 == (2 : Int) else false then n137 == (126 : Int) else false else false then e_37 == (0 : Int) else false then n139 == (2 : Int) else false then a_38 == n151 else false then e_45 == (0 : Int) else false then n153 == (0 : Int) else false then a_46 == (1 : Int) else false then a_54 == (-1 : Int) else false then e_53 == (0 : Int) else false then (8 : Int) == (8 : Int) else false then e_61 == (3 : Int) else false then e_67 == (3 : Int) else false then (1 : Int) == (1 : Int) else false then (1 : Int) == (1 : Int) else false)) [] []
      exact absurd (by rw [h5.2.1, h5.2.2.2]; rfl) (c38 h5.2.2.1)

theorem frameNames_ok : Holds Try.prog 5 trueS := by
  refine fn_sound (env := mkEnv T7) (tab_ok T7_ok) Try.func5 Try.call5 fun args k h => ?_
  match args, h with
  | [], h => exact ⟨by kernel_rfl, namesLoops, fun _ _ => none, .cast (by kernel_rfl) (frameNames_vc  k h)⟩
end Go.Proofs.Ytilbglkpbjamfaa

namespace Go.Proofs.Ytilbglkpbjamfaa
open Go.ChangeShapes Go.WideShapes Go.ChangeAt Go.RowKit Go.Eng
set_option linter.unusedVariables false

theorem ownN : ownKnob Try.prog.godebug = none := by kernel_rfl

set_option maxRecDepth 100000 in
theorem frameNamesLifted (os : Os) (started : os.Started) (H : Type) (enc : TypeId × Value → H) :
    ReturnsInHanded {} Try.checked os 5 .any (Rows.frameNamesSpec.pre6 enc Try.prog Try.f5 Rows.frameNamesRow.domain false) (Rows.frameNamesSpec.post enc Try.prog Try.f5 false true false false) := by
  refine returnsInHanded_of_change (C := Try.checked) ownN started (by kernel_rfl) Try.func5
    (ChangeSpec.witness6 (enc := enc) (C := Try.checked) false ⟨#[], #[], []⟩ 8 (by kernel_rfl) (by kernel_rfl) (by kernel_rfl) (by kernel_rfl)) ?_
  intro W base args ds gs before hval0 hW hcnd _
  have hW' := hW
  obtain ⟨p, q, hA0, hV, rfl, hfz, hnd⟩ := hW
  have hA : DataW.TrodAll enc Try.prog W 0 (fun _ => true) true Try.f5.params.toList args.toList ds p := hA0
  rw [Try.params5] at hA
  obtain ⟨hargs, rfl, rfl⟩ := trodAll_nil hA
  obtain rfl : args = #[] := by cases args; simp_all
  obtain ⟨rfl, rfl⟩ := trodVars_none hV
  clear hA0 hval0
  refine (calls_of_holds frameNames_ok Try.call5 (w := W) (vals := #[]) (args := []) rfl (fun j v hj => by simp at hj) rfl).mono fun e W' ⟨he, bel⟩ => ?_
  subst he
  exact ⟨_, rfl, _, _, _, [], _, [], hW', trodAll_mk1 (shut_bool Try.underlying4 _), trodAll_mk0, rfl, bel.frame _, fun h => by cases h⟩

theorem frameNames_said : Rows.FrameNamesSaid :=
  OpenClaim.holds_of_wide 5 Try.f5 rfl rfl rfl rfl rfl rfl rfl ⟨rfl, rfl, rfl, rfl, rfl⟩ rfl rfl rfl rfl rfl (by kernel_rfl) Try.func5 (by kernel_rfl)
    (of_decide_eq_true (by kernel_rfl)) (by unfold Func.isWrapper; first | (rw [if_pos (by decide +kernel)]; kernel_rfl) | (rw [if_neg (by decide +kernel)]; exact ⟨rfl, rfl⟩))
    (fun os started H enc _ => frameNamesLifted os started H enc)
#print axioms frameNames_said
end Go.Proofs.Ytilbglkpbjamfaa


