/- WireNames: what links do, and errors, have their numbers; the chapter's examples are so. No conditions: the statement has no arguments. -/
import Derived.Test.YtkcnpemaocdnkaaWrL
import Derived.Test.YtkcnpemaocdnkaaRows
namespace Go.Proofs.Ytkcnpemaocdnkaa
open Go Go.Eng Go.Wr Go.Proofs
set_option linter.unusedVariables false
set_option maxHeartbeats 2000000 in
theorem wireNames_vc (k : AV → List (Option Blk) → List Blk → Prop) (hk : k (AV.bool true) [] []) :
  (
   ((0 : Int) ≤ (0 : Int)) ∧
   ((0 : Int) ≤ (255 : Int))) ∧
  (
   ((-9223372036854775808 : Int) ≤ (0 : Int)) ∧
   ((0 : Int) ≤ (9223372036854775807 : Int))) ∧
  ∀ (e_1 : Int),
  ∀ (ys_2 : List UInt8),
  ∀ (us_3 : List UInt8),
  (e_1 = wE (List.take (2 : Nat) (List.drop (0 : Nat) [UInt8.ofNat (Int.toNat (1 : Int)), UInt8.ofNat (Int.toNat (2 : Int))])).length (List.take (2 : Nat) (List.drop (0 : Nat) [UInt8.ofNat (Int.toNat (3 : Int)), UInt8.ofNat (Int.toNat (4 : Int))])).length (0 : Int) (0 : Int)) →
  ((e_1 = (0 : Int)) →
   (ys_2 = List.take (2 : Nat) (List.drop (0 : Nat) [UInt8.ofNat (Int.toNat (1 : Int)), UInt8.ofNat (Int.toNat (2 : Int))]) ++ wOut (List.take (2 : Nat) (List.drop (0 : Nat) [UInt8.ofNat (Int.toNat (3 : Int)), UInt8.ofNat (Int.toNat (4 : Int))])) (0 : Int) (0 : Int))) →
  ((e_1 = (0 : Int)) →
   (us_3 = if (0 : Int) = (3 : Int) then List.take (2 : Nat) (List.drop (0 : Nat) [UInt8.ofNat (Int.toNat (3 : Int)), UInt8.ofNat (Int.toNat (4 : Int))]) else [])) →
  (
   ((0 : Int) ≤ (3 : Int)) ∧
   ((3 : Int) ≤ (255 : Int))) ∧
  (
   ((-9223372036854775808 : Int) ≤ (0 : Int)) ∧
   ((0 : Int) ≤ (9223372036854775807 : Int))) ∧
  ∀ (e_7 : Int),
  ∀ (ys_8 : List UInt8),
  ∀ (us_9 : List UInt8),
  (e_7 = wE (List.take (2 : Nat) (List.drop (0 : Nat) [UInt8.ofNat (Int.toNat (1 : Int)), UInt8.ofNat (Int.toNat (2 : Int))])).length (List.take (2 : Nat) (List.drop (0 : Nat) [UInt8.ofNat (Int.toNat (3 : Int)), UInt8.ofNat (Int.toNat (4 : Int))])).length (3 : Int) (0 : Int)) →
  ((e_7 = (0 : Int)) →
   (ys_8 = List.take (2 : Nat) (List.drop (0 : Nat) [UInt8.ofNat (Int.toNat (1 : Int)), UInt8.ofNat (Int.toNat (2 : Int))]) ++ wOut (List.take (2 : Nat) (List.drop (0 : Nat) [UInt8.ofNat (Int.toNat (3 : Int)), UInt8.ofNat (Int.toNat (4 : Int))])) (3 : Int) (0 : Int))) →
  ((e_7 = (0 : Int)) →
   (us_9 = if (3 : Int) = (3 : Int) then List.take (2 : Nat) (List.drop (0 : Nat) [UInt8.ofNat (Int.toNat (3 : Int)), UInt8.ofNat (Int.toNat (4 : Int))]) else [])) →
  (
   ((0 : Int) ≤ (4 : Int)) ∧
   ((4 : Int) ≤ (255 : Int))) ∧
  (
   ((-9223372036854775808 : Int) ≤ (3 : Int)) ∧
   ((3 : Int) ≤ (9223372036854775807 : Int))) ∧
  ∀ (e_13 : Int),
  ∀ (ys_14 : List UInt8),
  ∀ (us_15 : List UInt8),
  (e_13 = wE (List.take (1 : Nat) (List.drop (0 : Nat) [UInt8.ofNat (Int.toNat (1 : Int))])).length (List.take (2 : Nat) (List.drop (0 : Nat) [UInt8.ofNat (Int.toNat (2 : Int)), UInt8.ofNat (Int.toNat (3 : Int))])).length (4 : Int) (3 : Int)) →
  ((e_13 = (0 : Int)) →
   (ys_14 = List.take (1 : Nat) (List.drop (0 : Nat) [UInt8.ofNat (Int.toNat (1 : Int))]) ++ wOut (List.take (2 : Nat) (List.drop (0 : Nat) [UInt8.ofNat (Int.toNat (2 : Int)), UInt8.ofNat (Int.toNat (3 : Int))])) (4 : Int) (3 : Int))) →
  ((e_13 = (0 : Int)) →
   (us_15 = if (4 : Int) = (3 : Int) then List.take (2 : Nat) (List.drop (0 : Nat) [UInt8.ofNat (Int.toNat (2 : Int)), UInt8.ofNat (Int.toNat (3 : Int))]) else [])) →
  (
   ((0 : Int) ≤ (4 : Int)) ∧
   ((4 : Int) ≤ (255 : Int))) ∧
  (
   ((-9223372036854775808 : Int) ≤ (3 : Int)) ∧
   ((3 : Int) ≤ (9223372036854775807 : Int))) ∧
  ∀ (e_19 : Int),
  ∀ (ys_20 : List UInt8),
  ∀ (us_21 : List UInt8),
  (e_19 = wE (List.take (1 : Nat) (List.drop (0 : Nat) [UInt8.ofNat (Int.toNat (1 : Int))])).length (0 : Nat) (4 : Int) (3 : Int)) →
  ((e_19 = (0 : Int)) →
   (ys_20 = List.take (1 : Nat) (List.drop (0 : Nat) [UInt8.ofNat (Int.toNat (1 : Int))]) ++ wOut [] (4 : Int) (3 : Int))) →
  ((e_19 = (0 : Int)) →
   (us_21 = if (4 : Int) = (3 : Int) then [] else [])) →
  (
   ∀ (e_25 : Int),
   (e_25 = rE (List.take (3 : Nat) (List.drop (0 : Nat) [List.take (1 : Nat) (List.drop (0 : Nat) [UInt8.ofNat (Int.toNat (1 : Int))]), List.take (1 : Nat) (List.drop (0 : Nat) [UInt8.ofNat (Int.toNat (2 : Int))]), List.take (1 : Nat) (List.drop (0 : Nat) [UInt8.ofNat (Int.toNat (3 : Int))])])) (List.take (3 : Nat) (List.drop (0 : Nat) [UInt8.ofNat (Int.toNat (3 : Int)), UInt8.ofNat (Int.toNat (1 : Int)), UInt8.ofNat (Int.toNat (0 : Int))])) (List.take (3 : Nat) (List.drop (0 : Nat) [(0 : Int), (0 : Int), (0 : Int)]))) →
   (e_25 ≠ (0 : Int)) →
   (
    ((0 : Int) ≤ (5 : Int)) ∧
    ((5 : Int) ≤ (255 : Int))) ∧
   (
    ((-9223372036854775808 : Int) ≤ (0 : Int)) ∧
    ((0 : Int) ≤ (9223372036854775807 : Int))) ∧
   ∀ (e_28 : Int),
   ∀ (ys_29 : List UInt8),
   ∀ (us_30 : List UInt8),
   (e_28 = wE (0 : Nat) (0 : Nat) (5 : Int) (0 : Int)) →
   ((e_28 = (0 : Int)) →
    (ys_29 = [] ++ wOut [] (5 : Int) (0 : Int))) →
   ((e_28 = (0 : Int)) →
    (us_30 = if (5 : Int) = (3 : Int) then [] else [])) →
   (
    ((0 : Int) ≤ (0 : Int)) ∧
    ((0 : Int) ≤ (255 : Int))) ∧
   (
    ((-9223372036854775808 : Int) ≤ (-1 : Int)) ∧
    ((-1 : Int) ≤ (9223372036854775807 : Int))) ∧
   ∀ (e_34 : Int),
   ∀ (ys_35 : List UInt8),
   ∀ (us_36 : List UInt8),
   (e_34 = wE (0 : Nat) (0 : Nat) (0 : Int) (-1 : Int)) →
   ((e_34 = (0 : Int)) →
    (ys_35 = [] ++ wOut [] (0 : Int) (-1 : Int))) →
   ((e_34 = (0 : Int)) →
    (us_36 = if (0 : Int) = (3 : Int) then [] else [])) →
   (
    ∀ (e_40 : Int),
    (e_40 = rE (List.take (1 : Nat) (List.drop (0 : Nat) [List.take (1 : Nat) (List.drop (0 : Nat) [UInt8.ofNat (Int.toNat (1 : Int))])])) [] []) →
    (e_40 ≠ (0 : Int)) →
    (
     ((0 : Int) ≤ (16385 : Int)) ∧
     ((16385 : Int) ≤ (16385 : Int)) ∧
     ((16385 : Int) * (↑(1 : Nat) : Int) ≤ (140737488355328 : Int))) ∧
    (
     ((0 : Int) ≤ (0 : Int)) ∧
     ((0 : Int) ≤ (255 : Int))) ∧
    (
     ((-9223372036854775808 : Int) ≤ (0 : Int)) ∧
     ((0 : Int) ≤ (9223372036854775807 : Int))) ∧
    ∀ (e_43 : Int),
    ∀ (ys_44 : List UInt8),
    ∀ (us_45 : List UInt8),
    (e_43 = wE (0 : Nat) (List.take (Int.toNat (16385 : Int)) (List.drop (0 : Nat) (List.replicate (Int.toNat (16385 : Int)) (UInt8.ofNat (Int.toNat (0 : Int)))))).length (0 : Int) (0 : Int)) →
    ((e_43 = (0 : Int)) →
     (ys_44 = [] ++ wOut (List.take (Int.toNat (16385 : Int)) (List.drop (0 : Nat) (List.replicate (Int.toNat (16385 : Int)) (UInt8.ofNat (Int.toNat (0 : Int)))))) (0 : Int) (0 : Int))) →
    ((e_43 = (0 : Int)) →
     (us_45 = if (0 : Int) = (3 : Int) then List.take (Int.toNat (16385 : Int)) (List.drop (0 : Nat) (List.replicate (Int.toNat (16385 : Int)) (UInt8.ofNat (Int.toNat (0 : Int))))) else [])) →
    ∀ (n49 : Int),
    (n49 = (0 : Int)) →
    br (bif !true then true else n49 != (3 : Int))
     ((k (AV.bool false) [] []))
     (br (bif bif true then bif bif bif bif bif bif bif bif e_1 == (0 : Int) then { data := ys_2.toArray : ByteArray }.data.toList == { data := #[(1 : UInt8), (2 : UInt8), (3 : UInt8), (4 : UInt8)] : ByteArray }.data.toList else false then e_7 == (0 : Int) else false then { data := ys_8.toArray : ByteArray }.data.toList == { data := #[(1 : UInt8), (2 : UInt8)] : ByteArray }.data.toList else false then { data := us_9.toArray : ByteArray }.data.toList == { data := #[(3 : UInt8), (4 : UInt8)] : ByteArray }.data.toList else false then e_13 == (0 : Int) else false then { data := ys_14.toArray : ByteArray }.data.toList == { data := #[(1 : UInt8), (2 : UInt8), (252 : UInt8)] : ByteArray }.data.toList else false then e_19 == (0 : Int) else false then { data := ys_20.toArray : ByteArray }.data.toList == { data := #[(1 : UInt8)] : ByteArray }.data.toList else false else false then e_25 == (0 : Int) else false)
       ((False))
       ((false = false) ∧
        (false = false) ∧
        (false = false) ∧
        (k (AV.bool (bif bif bif bif false then e_28 == (2 : Int) else false then e_34 == (2 : Int) else false then e_40 == (4 : Int) else false then e_43 == (3 : Int) else false)) [] [])))) ∧
   ((rE (List.take (1 : Nat) (List.drop (0 : Nat) [List.take (1 : Nat) (List.drop (0 : Nat) [UInt8.ofNat (Int.toNat (1 : Int))])])) [] [] = (0 : Int)) →
   ∀ (ys_52 : List (List UInt8)),
   (ys_52 = outs (List.take (1 : Nat) (List.drop (0 : Nat) [List.take (1 : Nat) (List.drop (0 : Nat) [UInt8.ofNat (Int.toNat (1 : Int))])])) [] [] (List.take (1 : Nat) (List.drop (0 : Nat) [List.take (1 : Nat) (List.drop (0 : Nat) [UInt8.ofNat (Int.toNat (1 : Int))])])).length) →
   (
    ((0 : Int) ≤ (16385 : Int)) ∧
    ((16385 : Int) ≤ (16385 : Int)) ∧
    ((16385 : Int) * (↑(1 : Nat) : Int) ≤ (140737488355328 : Int))) ∧
   (
    ((0 : Int) ≤ (0 : Int)) ∧
    ((0 : Int) ≤ (255 : Int))) ∧
   (
    ((-9223372036854775808 : Int) ≤ (0 : Int)) ∧
    ((0 : Int) ≤ (9223372036854775807 : Int))) ∧
   ∀ (e_54 : Int),
   ∀ (ys_55 : List UInt8),
   ∀ (us_56 : List UInt8),
   (e_54 = wE (0 : Nat) (List.take (Int.toNat (16385 : Int)) (List.drop (0 : Nat) (List.replicate (Int.toNat (16385 : Int)) (UInt8.ofNat (Int.toNat (0 : Int)))))).length (0 : Int) (0 : Int)) →
   ((e_54 = (0 : Int)) →
    (ys_55 = [] ++ wOut (List.take (Int.toNat (16385 : Int)) (List.drop (0 : Nat) (List.replicate (Int.toNat (16385 : Int)) (UInt8.ofNat (Int.toNat (0 : Int)))))) (0 : Int) (0 : Int))) →
   ((e_54 = (0 : Int)) →
    (us_56 = if (0 : Int) = (3 : Int) then List.take (Int.toNat (16385 : Int)) (List.drop (0 : Nat) (List.replicate (Int.toNat (16385 : Int)) (UInt8.ofNat (Int.toNat (0 : Int))))) else [])) →
   ∀ (n60 : Int),
   (n60 = (0 : Int)) →
   br (bif !true then true else n60 != (3 : Int))
    ((k (AV.bool false) [] []))
    (br (bif bif true then bif bif bif bif bif bif bif bif e_1 == (0 : Int) then { data := ys_2.toArray : ByteArray }.data.toList == { data := #[(1 : UInt8), (2 : UInt8), (3 : UInt8), (4 : UInt8)] : ByteArray }.data.toList else false then e_7 == (0 : Int) else false then { data := ys_8.toArray : ByteArray }.data.toList == { data := #[(1 : UInt8), (2 : UInt8)] : ByteArray }.data.toList else false then { data := us_9.toArray : ByteArray }.data.toList == { data := #[(3 : UInt8), (4 : UInt8)] : ByteArray }.data.toList else false then e_13 == (0 : Int) else false then { data := ys_14.toArray : ByteArray }.data.toList == { data := #[(1 : UInt8), (2 : UInt8), (252 : UInt8)] : ByteArray }.data.toList else false then e_19 == (0 : Int) else false then { data := ys_20.toArray : ByteArray }.data.toList == { data := #[(1 : UInt8)] : ByteArray }.data.toList else false else false then e_25 == (0 : Int) else false)
      ((False))
      ((false = false) ∧
       (false = false) ∧
       (false = false) ∧
       (k (AV.bool (bif bif bif bif false then e_28 == (2 : Int) else false then e_34 == (2 : Int) else false then (0 : Int) == (4 : Int) else false then e_54 == (3 : Int) else false)) [] []))))) ∧
  ((rE (List.take (3 : Nat) (List.drop (0 : Nat) [List.take (1 : Nat) (List.drop (0 : Nat) [UInt8.ofNat (Int.toNat (1 : Int))]), List.take (1 : Nat) (List.drop (0 : Nat) [UInt8.ofNat (Int.toNat (2 : Int))]), List.take (1 : Nat) (List.drop (0 : Nat) [UInt8.ofNat (Int.toNat (3 : Int))])])) (List.take (3 : Nat) (List.drop (0 : Nat) [UInt8.ofNat (Int.toNat (3 : Int)), UInt8.ofNat (Int.toNat (1 : Int)), UInt8.ofNat (Int.toNat (0 : Int))])) (List.take (3 : Nat) (List.drop (0 : Nat) [(0 : Int), (0 : Int), (0 : Int)])) = (0 : Int)) →
  ∀ (ys_63 : List (List UInt8)),
  (ys_63 = outs (List.take (3 : Nat) (List.drop (0 : Nat) [List.take (1 : Nat) (List.drop (0 : Nat) [UInt8.ofNat (Int.toNat (1 : Int))]), List.take (1 : Nat) (List.drop (0 : Nat) [UInt8.ofNat (Int.toNat (2 : Int))]), List.take (1 : Nat) (List.drop (0 : Nat) [UInt8.ofNat (Int.toNat (3 : Int))])])) (List.take (3 : Nat) (List.drop (0 : Nat) [UInt8.ofNat (Int.toNat (3 : Int)), UInt8.ofNat (Int.toNat (1 : Int)), UInt8.ofNat (Int.toNat (0 : Int))])) (List.take (3 : Nat) (List.drop (0 : Nat) [(0 : Int), (0 : Int), (0 : Int)])) (List.take (3 : Nat) (List.drop (0 : Nat) [List.take (1 : Nat) (List.drop (0 : Nat) [UInt8.ofNat (Int.toNat (1 : Int))]), List.take (1 : Nat) (List.drop (0 : Nat) [UInt8.ofNat (Int.toNat (2 : Int))]), List.take (1 : Nat) (List.drop (0 : Nat) [UInt8.ofNat (Int.toNat (3 : Int))])])).length) →
  (
   ((0 : Int) ≤ (5 : Int)) ∧
   ((5 : Int) ≤ (255 : Int))) ∧
  (
   ((-9223372036854775808 : Int) ≤ (0 : Int)) ∧
   ((0 : Int) ≤ (9223372036854775807 : Int))) ∧
  ∀ (e_65 : Int),
  ∀ (ys_66 : List UInt8),
  ∀ (us_67 : List UInt8),
  (e_65 = wE (0 : Nat) (0 : Nat) (5 : Int) (0 : Int)) →
  ((e_65 = (0 : Int)) →
   (ys_66 = [] ++ wOut [] (5 : Int) (0 : Int))) →
  ((e_65 = (0 : Int)) →
   (us_67 = if (5 : Int) = (3 : Int) then [] else [])) →
  (
   ((0 : Int) ≤ (0 : Int)) ∧
   ((0 : Int) ≤ (255 : Int))) ∧
  (
   ((-9223372036854775808 : Int) ≤ (-1 : Int)) ∧
   ((-1 : Int) ≤ (9223372036854775807 : Int))) ∧
  ∀ (e_71 : Int),
  ∀ (ys_72 : List UInt8),
  ∀ (us_73 : List UInt8),
  (e_71 = wE (0 : Nat) (0 : Nat) (0 : Int) (-1 : Int)) →
  ((e_71 = (0 : Int)) →
   (ys_72 = [] ++ wOut [] (0 : Int) (-1 : Int))) →
  ((e_71 = (0 : Int)) →
   (us_73 = if (0 : Int) = (3 : Int) then [] else [])) →
  (
   ∀ (e_77 : Int),
   (e_77 = rE (List.take (1 : Nat) (List.drop (0 : Nat) [List.take (1 : Nat) (List.drop (0 : Nat) [UInt8.ofNat (Int.toNat (1 : Int))])])) [] []) →
   (e_77 ≠ (0 : Int)) →
   (
    ((0 : Int) ≤ (16385 : Int)) ∧
    ((16385 : Int) ≤ (16385 : Int)) ∧
    ((16385 : Int) * (↑(1 : Nat) : Int) ≤ (140737488355328 : Int))) ∧
   (
    ((0 : Int) ≤ (0 : Int)) ∧
    ((0 : Int) ≤ (255 : Int))) ∧
   (
    ((-9223372036854775808 : Int) ≤ (0 : Int)) ∧
    ((0 : Int) ≤ (9223372036854775807 : Int))) ∧
   ∀ (e_80 : Int),
   ∀ (ys_81 : List UInt8),
   ∀ (us_82 : List UInt8),
   (e_80 = wE (0 : Nat) (List.take (Int.toNat (16385 : Int)) (List.drop (0 : Nat) (List.replicate (Int.toNat (16385 : Int)) (UInt8.ofNat (Int.toNat (0 : Int)))))).length (0 : Int) (0 : Int)) →
   ((e_80 = (0 : Int)) →
    (ys_81 = [] ++ wOut (List.take (Int.toNat (16385 : Int)) (List.drop (0 : Nat) (List.replicate (Int.toNat (16385 : Int)) (UInt8.ofNat (Int.toNat (0 : Int)))))) (0 : Int) (0 : Int))) →
   ((e_80 = (0 : Int)) →
    (us_82 = if (0 : Int) = (3 : Int) then List.take (Int.toNat (16385 : Int)) (List.drop (0 : Nat) (List.replicate (Int.toNat (16385 : Int)) (UInt8.ofNat (Int.toNat (0 : Int))))) else [])) →
   ∀ (n86 : Int),
   (n86 = (↑(List.take (3 : Nat) (List.drop (0 : Nat) [List.take (1 : Nat) (List.drop (0 : Nat) [UInt8.ofNat (Int.toNat (1 : Int))]), List.take (1 : Nat) (List.drop (0 : Nat) [UInt8.ofNat (Int.toNat (2 : Int))]), List.take (1 : Nat) (List.drop (0 : Nat) [UInt8.ofNat (Int.toNat (3 : Int))])])).length : Int)) →
   br (bif !true then true else n86 != (3 : Int))
    ((k (AV.bool false) [] []))
    ((
      ((bif bif true then bif bif bif bif bif bif bif bif e_1 == (0 : Int) then { data := ys_2.toArray : ByteArray }.data.toList == { data := #[(1 : UInt8), (2 : UInt8), (3 : UInt8), (4 : UInt8)] : ByteArray }.data.toList else false then e_7 == (0 : Int) else false then { data := ys_8.toArray : ByteArray }.data.toList == { data := #[(1 : UInt8), (2 : UInt8)] : ByteArray }.data.toList else false then { data := us_9.toArray : ByteArray }.data.toList == { data := #[(3 : UInt8), (4 : UInt8)] : ByteArray }.data.toList else false then e_13 == (0 : Int) else false then { data := ys_14.toArray : ByteArray }.data.toList == { data := #[(1 : UInt8), (2 : UInt8), (252 : UInt8)] : ByteArray }.data.toList else false then e_19 == (0 : Int) else false then { data := ys_20.toArray : ByteArray }.data.toList == { data := #[(1 : UInt8)] : ByteArray }.data.toList else false else false then (0 : Int) == (0 : Int) else false) = true) →
      ((0 : Int) ≤ (0 : Int)) ∧
      ((0 : Int) < (↑(List.take (3 : Nat) (List.drop (0 : Nat) [List.take (1 : Nat) (List.drop (0 : Nat) [UInt8.ofNat (Int.toNat (1 : Int))]), List.take (1 : Nat) (List.drop (0 : Nat) [UInt8.ofNat (Int.toNat (2 : Int))]), List.take (1 : Nat) (List.drop (0 : Nat) [UInt8.ofNat (Int.toNat (3 : Int))])])).length : Int))) ∧
     (
      ((bif bif true then bif bif bif bif bif bif bif bif e_1 == (0 : Int) then { data := ys_2.toArray : ByteArray }.data.toList == { data := #[(1 : UInt8), (2 : UInt8), (3 : UInt8), (4 : UInt8)] : ByteArray }.data.toList else false then e_7 == (0 : Int) else false then { data := ys_8.toArray : ByteArray }.data.toList == { data := #[(1 : UInt8), (2 : UInt8)] : ByteArray }.data.toList else false then { data := us_9.toArray : ByteArray }.data.toList == { data := #[(3 : UInt8), (4 : UInt8)] : ByteArray }.data.toList else false then e_13 == (0 : Int) else false then { data := ys_14.toArray : ByteArray }.data.toList == { data := #[(1 : UInt8), (2 : UInt8), (252 : UInt8)] : ByteArray }.data.toList else false then e_19 == (0 : Int) else false then { data := ys_20.toArray : ByteArray }.data.toList == { data := #[(1 : UInt8)] : ByteArray }.data.toList else false else false then (0 : Int) == (0 : Int) else false) = true) →
      ((0 : Nat) + Int.toNat (0 : Int) < ys_63.length)) ∧
     ∀ (n89 : Int),
     (n89 = (↑(ys_63.getD ((0 : Nat) + Int.toNat (0 : Int)) (dflt (6 : Nat))).length : Int)) →
     (
      ((bif bif bif true then bif bif bif bif bif bif bif bif e_1 == (0 : Int) then { data := ys_2.toArray : ByteArray }.data.toList == { data := #[(1 : UInt8), (2 : UInt8), (3 : UInt8), (4 : UInt8)] : ByteArray }.data.toList else false then e_7 == (0 : Int) else false then { data := ys_8.toArray : ByteArray }.data.toList == { data := #[(1 : UInt8), (2 : UInt8)] : ByteArray }.data.toList else false then { data := us_9.toArray : ByteArray }.data.toList == { data := #[(3 : UInt8), (4 : UInt8)] : ByteArray }.data.toList else false then e_13 == (0 : Int) else false then { data := ys_14.toArray : ByteArray }.data.toList == { data := #[(1 : UInt8), (2 : UInt8), (252 : UInt8)] : ByteArray }.data.toList else false then e_19 == (0 : Int) else false then { data := ys_20.toArray : ByteArray }.data.toList == { data := #[(1 : UInt8)] : ByteArray }.data.toList else false else false then (0 : Int) == (0 : Int) else false then n89 == (0 : Int) else false) = true) →
      ((0 : Int) ≤ (1 : Int)) ∧
      ((1 : Int) < (↑(List.take (3 : Nat) (List.drop (0 : Nat) [List.take (1 : Nat) (List.drop (0 : Nat) [UInt8.ofNat (Int.toNat (1 : Int))]), List.take (1 : Nat) (List.drop (0 : Nat) [UInt8.ofNat (Int.toNat (2 : Int))]), List.take (1 : Nat) (List.drop (0 : Nat) [UInt8.ofNat (Int.toNat (3 : Int))])])).length : Int))) ∧
     (
      ((bif bif bif true then bif bif bif bif bif bif bif bif e_1 == (0 : Int) then { data := ys_2.toArray : ByteArray }.data.toList == { data := #[(1 : UInt8), (2 : UInt8), (3 : UInt8), (4 : UInt8)] : ByteArray }.data.toList else false then e_7 == (0 : Int) else false then { data := ys_8.toArray : ByteArray }.data.toList == { data := #[(1 : UInt8), (2 : UInt8)] : ByteArray }.data.toList else false then { data := us_9.toArray : ByteArray }.data.toList == { data := #[(3 : UInt8), (4 : UInt8)] : ByteArray }.data.toList else false then e_13 == (0 : Int) else false then { data := ys_14.toArray : ByteArray }.data.toList == { data := #[(1 : UInt8), (2 : UInt8), (252 : UInt8)] : ByteArray }.data.toList else false then e_19 == (0 : Int) else false then { data := ys_20.toArray : ByteArray }.data.toList == { data := #[(1 : UInt8)] : ByteArray }.data.toList else false else false then (0 : Int) == (0 : Int) else false then n89 == (0 : Int) else false) = true) →
      ((0 : Nat) + Int.toNat (1 : Int) < ys_63.length)) ∧
     (
      ((bif bif bif bif true then bif bif bif bif bif bif bif bif e_1 == (0 : Int) then { data := ys_2.toArray : ByteArray }.data.toList == { data := #[(1 : UInt8), (2 : UInt8), (3 : UInt8), (4 : UInt8)] : ByteArray }.data.toList else false then e_7 == (0 : Int) else false then { data := ys_8.toArray : ByteArray }.data.toList == { data := #[(1 : UInt8), (2 : UInt8)] : ByteArray }.data.toList else false then { data := us_9.toArray : ByteArray }.data.toList == { data := #[(3 : UInt8), (4 : UInt8)] : ByteArray }.data.toList else false then e_13 == (0 : Int) else false then { data := ys_14.toArray : ByteArray }.data.toList == { data := #[(1 : UInt8), (2 : UInt8), (252 : UInt8)] : ByteArray }.data.toList else false then e_19 == (0 : Int) else false then { data := ys_20.toArray : ByteArray }.data.toList == { data := #[(1 : UInt8)] : ByteArray }.data.toList else false else false then (0 : Int) == (0 : Int) else false then n89 == (0 : Int) else false then { data := (ys_63.getD ((0 : Nat) + Int.toNat (1 : Int)) (dflt (6 : Nat))).toArray : ByteArray }.data.toList == { data := #[(1 : UInt8)] : ByteArray }.data.toList else false) = true) →
      ((0 : Int) ≤ (2 : Int)) ∧
      ((2 : Int) < (↑(List.take (3 : Nat) (List.drop (0 : Nat) [List.take (1 : Nat) (List.drop (0 : Nat) [UInt8.ofNat (Int.toNat (1 : Int))]), List.take (1 : Nat) (List.drop (0 : Nat) [UInt8.ofNat (Int.toNat (2 : Int))]), List.take (1 : Nat) (List.drop (0 : Nat) [UInt8.ofNat (Int.toNat (3 : Int))])])).length : Int))) ∧
     (
      ((bif bif bif bif true then bif bif bif bif bif bif bif bif e_1 == (0 : Int) then { data := ys_2.toArray : ByteArray }.data.toList == { data := #[(1 : UInt8), (2 : UInt8), (3 : UInt8), (4 : UInt8)] : ByteArray }.data.toList else false then e_7 == (0 : Int) else false then { data := ys_8.toArray : ByteArray }.data.toList == { data := #[(1 : UInt8), (2 : UInt8)] : ByteArray }.data.toList else false then { data := us_9.toArray : ByteArray }.data.toList == { data := #[(3 : UInt8), (4 : UInt8)] : ByteArray }.data.toList else false then e_13 == (0 : Int) else false then { data := ys_14.toArray : ByteArray }.data.toList == { data := #[(1 : UInt8), (2 : UInt8), (252 : UInt8)] : ByteArray }.data.toList else false then e_19 == (0 : Int) else false then { data := ys_20.toArray : ByteArray }.data.toList == { data := #[(1 : UInt8)] : ByteArray }.data.toList else false else false then (0 : Int) == (0 : Int) else false then n89 == (0 : Int) else false then { data := (ys_63.getD ((0 : Nat) + Int.toNat (1 : Int)) (dflt (6 : Nat))).toArray : ByteArray }.data.toList == { data := #[(1 : UInt8)] : ByteArray }.data.toList else false) = true) →
      ((0 : Nat) + Int.toNat (2 : Int) < ys_63.length)) ∧
     (k (AV.bool (bif bif bif bif bif bif bif bif bif true then bif bif bif bif bif bif bif bif e_1 == (0 : Int) then { data := ys_2.toArray : ByteArray }.data.toList == { data := #[(1 : UInt8), (2 : UInt8), (3 : UInt8), (4 : UInt8)] : ByteArray }.data.toList else false then e_7 == (0 : Int) else false then { data := ys_8.toArray : ByteArray }.data.toList == { data := #[(1 : UInt8), (2 : UInt8)] : ByteArray }.data.toList else false then { data := us_9.toArray : ByteArray }.data.toList == { data := #[(3 : UInt8), (4 : UInt8)] : ByteArray }.data.toList else false then e_13 == (0 : Int) else false then { data := ys_14.toArray : ByteArray }.data.toList == { data := #[(1 : UInt8), (2 : UInt8), (252 : UInt8)] : ByteArray }.data.toList else false then e_19 == (0 : Int) else false then { data := ys_20.toArray : ByteArray }.data.toList == { data := #[(1 : UInt8)] : ByteArray }.data.toList else false else false then (0 : Int) == (0 : Int) else false then n89 == (0 : Int) else false then { data := (ys_63.getD ((0 : Nat) + Int.toNat (1 : Int)) (dflt (6 : Nat))).toArray : ByteArray }.data.toList == { data := #[(1 : UInt8)] : ByteArray }.data.toList else false then { data := (ys_63.getD ((0 : Nat) + Int.toNat (2 : Int)) (dflt (6 : Nat))).toArray : ByteArray }.data.toList == { data := #[(3 : UInt8)] : ByteArray }.data.toList else false then e_65 == (2 : Int) else false then e_71 == (2 : Int) else false then e_77 == (4 : Int) else false then e_80 == (3 : Int) else false)) [] []))) ∧
  ((rE (List.take (1 : Nat) (List.drop (0 : Nat) [List.take (1 : Nat) (List.drop (0 : Nat) [UInt8.ofNat (Int.toNat (1 : Int))])])) [] [] = (0 : Int)) →
  ∀ (ys_94 : List (List UInt8)),
  (ys_94 = outs (List.take (1 : Nat) (List.drop (0 : Nat) [List.take (1 : Nat) (List.drop (0 : Nat) [UInt8.ofNat (Int.toNat (1 : Int))])])) [] [] (List.take (1 : Nat) (List.drop (0 : Nat) [List.take (1 : Nat) (List.drop (0 : Nat) [UInt8.ofNat (Int.toNat (1 : Int))])])).length) →
  (
   ((0 : Int) ≤ (16385 : Int)) ∧
   ((16385 : Int) ≤ (16385 : Int)) ∧
   ((16385 : Int) * (↑(1 : Nat) : Int) ≤ (140737488355328 : Int))) ∧
  (
   ((0 : Int) ≤ (0 : Int)) ∧
   ((0 : Int) ≤ (255 : Int))) ∧
  (
   ((-9223372036854775808 : Int) ≤ (0 : Int)) ∧
   ((0 : Int) ≤ (9223372036854775807 : Int))) ∧
  ∀ (e_96 : Int),
  ∀ (ys_97 : List UInt8),
  ∀ (us_98 : List UInt8),
  (e_96 = wE (0 : Nat) (List.take (Int.toNat (16385 : Int)) (List.drop (0 : Nat) (List.replicate (Int.toNat (16385 : Int)) (UInt8.ofNat (Int.toNat (0 : Int)))))).length (0 : Int) (0 : Int)) →
  ((e_96 = (0 : Int)) →
   (ys_97 = [] ++ wOut (List.take (Int.toNat (16385 : Int)) (List.drop (0 : Nat) (List.replicate (Int.toNat (16385 : Int)) (UInt8.ofNat (Int.toNat (0 : Int)))))) (0 : Int) (0 : Int))) →
  ((e_96 = (0 : Int)) →
   (us_98 = if (0 : Int) = (3 : Int) then List.take (Int.toNat (16385 : Int)) (List.drop (0 : Nat) (List.replicate (Int.toNat (16385 : Int)) (UInt8.ofNat (Int.toNat (0 : Int))))) else [])) →
  ∀ (n102 : Int),
  (n102 = (↑(List.take (3 : Nat) (List.drop (0 : Nat) [List.take (1 : Nat) (List.drop (0 : Nat) [UInt8.ofNat (Int.toNat (1 : Int))]), List.take (1 : Nat) (List.drop (0 : Nat) [UInt8.ofNat (Int.toNat (2 : Int))]), List.take (1 : Nat) (List.drop (0 : Nat) [UInt8.ofNat (Int.toNat (3 : Int))])])).length : Int)) →
  br (bif !true then true else n102 != (3 : Int))
   ((k (AV.bool false) [] []))
   ((
     ((bif bif true then bif bif bif bif bif bif bif bif e_1 == (0 : Int) then { data := ys_2.toArray : ByteArray }.data.toList == { data := #[(1 : UInt8), (2 : UInt8), (3 : UInt8), (4 : UInt8)] : ByteArray }.data.toList else false then e_7 == (0 : Int) else false then { data := ys_8.toArray : ByteArray }.data.toList == { data := #[(1 : UInt8), (2 : UInt8)] : ByteArray }.data.toList else false then { data := us_9.toArray : ByteArray }.data.toList == { data := #[(3 : UInt8), (4 : UInt8)] : ByteArray }.data.toList else false then e_13 == (0 : Int) else false then { data := ys_14.toArray : ByteArray }.data.toList == { data := #[(1 : UInt8), (2 : UInt8), (252 : UInt8)] : ByteArray }.data.toList else false then e_19 == (0 : Int) else false then { data := ys_20.toArray : ByteArray }.data.toList == { data := #[(1 : UInt8)] : ByteArray }.data.toList else false else false then (0 : Int) == (0 : Int) else false) = true) →
     ((0 : Int) ≤ (0 : Int)) ∧
     ((0 : Int) < (↑(List.take (3 : Nat) (List.drop (0 : Nat) [List.take (1 : Nat) (List.drop (0 : Nat) [UInt8.ofNat (Int.toNat (1 : Int))]), List.take (1 : Nat) (List.drop (0 : Nat) [UInt8.ofNat (Int.toNat (2 : Int))]), List.take (1 : Nat) (List.drop (0 : Nat) [UInt8.ofNat (Int.toNat (3 : Int))])])).length : Int))) ∧
    (
     ((bif bif true then bif bif bif bif bif bif bif bif e_1 == (0 : Int) then { data := ys_2.toArray : ByteArray }.data.toList == { data := #[(1 : UInt8), (2 : UInt8), (3 : UInt8), (4 : UInt8)] : ByteArray }.data.toList else false then e_7 == (0 : Int) else false then { data := ys_8.toArray : ByteArray }.data.toList == { data := #[(1 : UInt8), (2 : UInt8)] : ByteArray }.data.toList else false then { data := us_9.toArray : ByteArray }.data.toList == { data := #[(3 : UInt8), (4 : UInt8)] : ByteArray }.data.toList else false then e_13 == (0 : Int) else false then { data := ys_14.toArray : ByteArray }.data.toList == { data := #[(1 : UInt8), (2 : UInt8), (252 : UInt8)] : ByteArray }.data.toList else false then e_19 == (0 : Int) else false then { data := ys_20.toArray : ByteArray }.data.toList == { data := #[(1 : UInt8)] : ByteArray }.data.toList else false else false then (0 : Int) == (0 : Int) else false) = true) →
     ((0 : Nat) + Int.toNat (0 : Int) < ys_63.length)) ∧
    ∀ (n105 : Int),
    (n105 = (↑(ys_63.getD ((0 : Nat) + Int.toNat (0 : Int)) (dflt (6 : Nat))).length : Int)) →
    (
     ((bif bif bif true then bif bif bif bif bif bif bif bif e_1 == (0 : Int) then { data := ys_2.toArray : ByteArray }.data.toList == { data := #[(1 : UInt8), (2 : UInt8), (3 : UInt8), (4 : UInt8)] : ByteArray }.data.toList else false then e_7 == (0 : Int) else false then { data := ys_8.toArray : ByteArray }.data.toList == { data := #[(1 : UInt8), (2 : UInt8)] : ByteArray }.data.toList else false then { data := us_9.toArray : ByteArray }.data.toList == { data := #[(3 : UInt8), (4 : UInt8)] : ByteArray }.data.toList else false then e_13 == (0 : Int) else false then { data := ys_14.toArray : ByteArray }.data.toList == { data := #[(1 : UInt8), (2 : UInt8), (252 : UInt8)] : ByteArray }.data.toList else false then e_19 == (0 : Int) else false then { data := ys_20.toArray : ByteArray }.data.toList == { data := #[(1 : UInt8)] : ByteArray }.data.toList else false else false then (0 : Int) == (0 : Int) else false then n105 == (0 : Int) else false) = true) →
     ((0 : Int) ≤ (1 : Int)) ∧
     ((1 : Int) < (↑(List.take (3 : Nat) (List.drop (0 : Nat) [List.take (1 : Nat) (List.drop (0 : Nat) [UInt8.ofNat (Int.toNat (1 : Int))]), List.take (1 : Nat) (List.drop (0 : Nat) [UInt8.ofNat (Int.toNat (2 : Int))]), List.take (1 : Nat) (List.drop (0 : Nat) [UInt8.ofNat (Int.toNat (3 : Int))])])).length : Int))) ∧
    (
     ((bif bif bif true then bif bif bif bif bif bif bif bif e_1 == (0 : Int) then { data := ys_2.toArray : ByteArray }.data.toList == { data := #[(1 : UInt8), (2 : UInt8), (3 : UInt8), (4 : UInt8)] : ByteArray }.data.toList else false then e_7 == (0 : Int) else false then { data := ys_8.toArray : ByteArray }.data.toList == { data := #[(1 : UInt8), (2 : UInt8)] : ByteArray }.data.toList else false then { data := us_9.toArray : ByteArray }.data.toList == { data := #[(3 : UInt8), (4 : UInt8)] : ByteArray }.data.toList else false then e_13 == (0 : Int) else false then { data := ys_14.toArray : ByteArray }.data.toList == { data := #[(1 : UInt8), (2 : UInt8), (252 : UInt8)] : ByteArray }.data.toList else false then e_19 == (0 : Int) else false then { data := ys_20.toArray : ByteArray }.data.toList == { data := #[(1 : UInt8)] : ByteArray }.data.toList else false else false then (0 : Int) == (0 : Int) else false then n105 == (0 : Int) else false) = true) →
     ((0 : Nat) + Int.toNat (1 : Int) < ys_63.length)) ∧
    (
     ((bif bif bif bif true then bif bif bif bif bif bif bif bif e_1 == (0 : Int) then { data := ys_2.toArray : ByteArray }.data.toList == { data := #[(1 : UInt8), (2 : UInt8), (3 : UInt8), (4 : UInt8)] : ByteArray }.data.toList else false then e_7 == (0 : Int) else false then { data := ys_8.toArray : ByteArray }.data.toList == { data := #[(1 : UInt8), (2 : UInt8)] : ByteArray }.data.toList else false then { data := us_9.toArray : ByteArray }.data.toList == { data := #[(3 : UInt8), (4 : UInt8)] : ByteArray }.data.toList else false then e_13 == (0 : Int) else false then { data := ys_14.toArray : ByteArray }.data.toList == { data := #[(1 : UInt8), (2 : UInt8), (252 : UInt8)] : ByteArray }.data.toList else false then e_19 == (0 : Int) else false then { data := ys_20.toArray : ByteArray }.data.toList == { data := #[(1 : UInt8)] : ByteArray }.data.toList else false else false then (0 : Int) == (0 : Int) else false then n105 == (0 : Int) else false then { data := (ys_63.getD ((0 : Nat) + Int.toNat (1 : Int)) (dflt (6 : Nat))).toArray : ByteArray }.data.toList == { data := #[(1 : UInt8)] : ByteArray }.data.toList else false) = true) →
     ((0 : Int) ≤ (2 : Int)) ∧
     ((2 : Int) < (↑(List.take (3 : Nat) (List.drop (0 : Nat) [List.take (1 : Nat) (List.drop (0 : Nat) [UInt8.ofNat (Int.toNat (1 : Int))]), List.take (1 : Nat) (List.drop (0 : Nat) [UInt8.ofNat (Int.toNat (2 : Int))]), List.take (1 : Nat) (List.drop (0 : Nat) [UInt8.ofNat (Int.toNat (3 : Int))])])).length : Int))) ∧
    (
     ((bif bif bif bif true then bif bif bif bif bif bif bif bif e_1 == (0 : Int) then { data := ys_2.toArray : ByteArray }.data.toList == { data := #[(1 : UInt8), (2 : UInt8), (3 : UInt8), (4 : UInt8)] : ByteArray }.data.toList else false then e_7 == (0 : Int) else false then { data := ys_8.toArray : ByteArray }.data.toList == { data := #[(1 : UInt8), (2 : UInt8)] : ByteArray }.data.toList else false then { data := us_9.toArray : ByteArray }.data.toList == { data := #[(3 : UInt8), (4 : UInt8)] : ByteArray }.data.toList else false then e_13 == (0 : Int) else false then { data := ys_14.toArray : ByteArray }.data.toList == { data := #[(1 : UInt8), (2 : UInt8), (252 : UInt8)] : ByteArray }.data.toList else false then e_19 == (0 : Int) else false then { data := ys_20.toArray : ByteArray }.data.toList == { data := #[(1 : UInt8)] : ByteArray }.data.toList else false else false then (0 : Int) == (0 : Int) else false then n105 == (0 : Int) else false then { data := (ys_63.getD ((0 : Nat) + Int.toNat (1 : Int)) (dflt (6 : Nat))).toArray : ByteArray }.data.toList == { data := #[(1 : UInt8)] : ByteArray }.data.toList else false) = true) →
     ((0 : Nat) + Int.toNat (2 : Int) < ys_63.length)) ∧
    (k (AV.bool (bif bif bif bif bif bif bif bif bif true then bif bif bif bif bif bif bif bif e_1 == (0 : Int) then { data := ys_2.toArray : ByteArray }.data.toList == { data := #[(1 : UInt8), (2 : UInt8), (3 : UInt8), (4 : UInt8)] : ByteArray }.data.toList else false then e_7 == (0 : Int) else false then { data := ys_8.toArray : ByteArray }.data.toList == { data := #[(1 : UInt8), (2 : UInt8)] : ByteArray }.data.toList else false then { data := us_9.toArray : ByteArray }.data.toList == { data := #[(3 : UInt8), (4 : UInt8)] : ByteArray }.data.toList else false then e_13 == (0 : Int) else false then { data := ys_14.toArray : ByteArray }.data.toList == { data := #[(1 : UInt8), (2 : UInt8), (252 : UInt8)] : ByteArray }.data.toList else false then e_19 == (0 : Int) else false then { data := ys_20.toArray : ByteArray }.data.toList == { data := #[(1 : UInt8)] : ByteArray }.data.toList else false else false then (0 : Int) == (0 : Int) else false then n105 == (0 : Int) else false then { data := (ys_63.getD ((0 : Nat) + Int.toNat (1 : Int)) (dflt (6 : Nat))).toArray : ByteArray }.data.toList == { data := #[(1 : UInt8)] : ByteArray }.data.toList else false then { data := (ys_63.getD ((0 : Nat) + Int.toNat (2 : Int)) (dflt (6 : Nat))).toArray : ByteArray }.data.toList == { data := #[(3 : UInt8)] : ByteArray }.data.toList else false then e_65 == (2 : Int) else false then e_71 == (2 : Int) else false then (0 : Int) == (4 : Int) else false then e_96 == (3 : Int) else false)) [] [])))) := by
  refine ⟨by first | omega | (dsimp only; omega), ?_⟩ -- (0 : Int) ≤ (0 : Int) ∧ (0 : Int) ≤ (255 : Int)
  refine ⟨by first | omega | (dsimp only; omega), ?_⟩ -- (-9223372036854775808 : Int) ≤ (0 : Int) ∧ (0 : Int) ≤ (9223372036854775807 : Int)
  intro e_1
  intro ys_2
  intro us_3
  intro h1 -- e_1 = wE (List.take (2 : Nat) (List.drop (0 : Nat) [UInt8.ofNat (Int.toNat (1 : Int)), UInt8.ofNat (Int.toNat (2 : Int))])).length (List.take (2 : Nat) (List.drop (0 : Nat) [UInt8.ofNat (Int.toNat (3 : Int)), UInt8.ofNat (Int.toNat (4 : Int))])).length (0 : Int) (0 : Int)
  intro h2 -- e_1 = (0 : Int) → ys_2 = List.take (2 : Nat) (List.drop (0 : Nat) [UInt8.ofNat (Int.toNat (1 : Int)), UInt8.ofNat (Int.toNat (2 : Int))]) ++ wOut (List.take (2 : Nat) (List.drop (0 : Nat) [UInt8.ofNat (Int.toNat (3 : Int)), UInt8.ofNat (Int.toNat (4 : Int))])) (0 : Int) (0 : Int)
  intro h3 -- e_1 = (0 : Int) → us_3 = if (0 : Int) = (3 : Int) then List.take (2 : Nat) (List.drop (0 : Nat) [UInt8.ofNat (Int.toNat (3 : Int)), UInt8.ofNat (Int.toNat (4 : Int))]) else []
  refine ⟨by first | omega | (dsimp only; omega), ?_⟩ -- (0 : Int) ≤ (3 : Int) ∧ (3 : Int) ≤ (255 : Int)
  refine ⟨by first | omega | (dsimp only; omega), ?_⟩ -- (-9223372036854775808 : Int) ≤ (0 : Int) ∧ (0 : Int) ≤ (9223372036854775807 : Int)
  intro e_7
  intro ys_8
  intro us_9
  intro h4 -- e_7 = wE (List.take (2 : Nat) (List.drop (0 : Nat) [UInt8.ofNat (Int.toNat (1 : Int)), UInt8.ofNat (Int.toNat (2 : Int))])).length (List.take (2 : Nat) (List.drop (0 : Nat) [UInt8.ofNat (Int.toNat (3 : Int)), UInt8.ofNat (Int.toNat (4 : Int))])).length (3 : Int) (0 : Int)
  intro h5 -- e_7 = (0 : Int) → ys_8 = List.take (2 : Nat) (List.drop (0 : Nat) [UInt8.ofNat (Int.toNat (1 : Int)), UInt8.ofNat (Int.toNat (2 : Int))]) ++ wOut (List.take (2 : Nat) (List.drop (0 : Nat) [UInt8.ofNat (Int.toNat (3 : Int)), UInt8.ofNat (Int.toNat (4 : Int))])) (3 : Int) (0 : Int)
  intro h6 -- e_7 = (0 : Int) → us_9 = if (3 : Int) = (3 : Int) then List.take (2 : Nat) (List.drop (0 : Nat) [UInt8.ofNat (Int.toNat (3 : Int)), UInt8.ofNat (Int.toNat (4 : Int))]) else []
  refine ⟨by first | omega | (dsimp only; omega), ?_⟩ -- (0 : Int) ≤ (4 : Int) ∧ (4 : Int) ≤ (255 : Int)
  refine ⟨by first | omega | (dsimp only; omega), ?_⟩ -- (-9223372036854775808 : Int) ≤ (3 : Int) ∧ (3 : Int) ≤ (9223372036854775807 : Int)
  intro e_13
  intro ys_14
  intro us_15
  intro h7 -- e_13 = wE (List.take (1 : Nat) (List.drop (0 : Nat) [UInt8.ofNat (Int.toNat (1 : Int))])).length (List.take (2 : Nat) (List.drop (0 : Nat) [UInt8.ofNat (Int.toNat (2 : Int)), UInt8.ofNat (Int.toNat (3 : Int))])).length (4 : Int) (3 : Int)
  intro h8 -- e_13 = (0 : Int) → ys_14 = List.take (1 : Nat) (List.drop (0 : Nat) [UInt8.ofNat (Int.toNat (1 : Int))]) ++ wOut (List.take (2 : Nat) (List.drop (0 : Nat) [UInt8.ofNat (Int.toNat (2 : Int)), UInt8.ofNat (Int.toNat (3 : Int))])) (4 : Int) (3 : Int)
  intro h9 -- e_13 = (0 : Int) → us_15 = if (4 : Int) = (3 : Int) then List.take (2 : Nat) (List.drop (0 : Nat) [UInt8.ofNat (Int.toNat (2 : Int)), UInt8.ofNat (Int.toNat (3 : Int))]) else []
  refine ⟨by first | omega | (dsimp only; omega), ?_⟩ -- (0 : Int) ≤ (4 : Int) ∧ (4 : Int) ≤ (255 : Int)
  refine ⟨by first | omega | (dsimp only; omega), ?_⟩ -- (-9223372036854775808 : Int) ≤ (3 : Int) ∧ (3 : Int) ≤ (9223372036854775807 : Int)
  intro e_19
  intro ys_20
  intro us_21
  intro h10 -- e_19 = wE (List.take (1 : Nat) (List.drop (0 : Nat) [UInt8.ofNat (Int.toNat (1 : Int))])).length (0 : Nat) (4 : Int) (3 : Int)
  intro h11 -- e_19 = (0 : Int) → ys_20 = List.take (1 : Nat) (List.drop (0 : Nat) [UInt8.ofNat (Int.toNat (1 : Int))]) ++ wOut [] (4 : Int) (3 : Int)
  intro h12 -- e_19 = (0 : Int) → us_21 = if (4 : Int) = (3 : Int) then [] else []
  refine ⟨?_, ?_⟩
  · -- left
    intro e_25
    intro h13 -- e_25 = rE (List.take (3 : Nat) (List.drop (0 : Nat) [List.take (1 : Nat) (List.drop (0 : Nat) [UInt8.ofNat (Int.toNat (1 : Int))]), List.take (1 : Nat) (List.drop (0 : Nat) [UInt8.ofNat (Int.toNat (2 : Int))]), List.take (1 : Nat) (List.drop (0 : Nat) [UInt8.ofNat (Int.toNat (3 : Int))])])) (List.take (3 : Nat) (List.drop (0 : Nat) [UInt8.ofNat (Int.toNat (3 : Int)), UInt8.ofNat (Int.toNat (1 : Int)), UInt8.ofNat (Int.toNat (0 : Int))])) (List.take (3 : Nat) (List.drop (0 : Nat) [(0 : Int), (0 : Int), (0 : Int)]))
    intro h14 -- e_25 ≠ (0 : Int)
    refine ⟨by first | omega | (dsimp only; omega), ?_⟩ -- (0 : Int) ≤ (5 : Int) ∧ (5 : Int) ≤ (255 : Int)
    refine ⟨by first | omega | (dsimp only; omega), ?_⟩ -- (-9223372036854775808 : Int) ≤ (0 : Int) ∧ (0 : Int) ≤ (9223372036854775807 : Int)
    intro e_28
    intro ys_29
    intro us_30
    intro h15 -- e_28 = wE (0 : Nat) (0 : Nat) (5 : Int) (0 : Int)
    intro h16 -- e_28 = (0 : Int) → ys_29 = [] ++ wOut [] (5 : Int) (0 : Int)
    intro h17 -- e_28 = (0 : Int) → us_30 = if (5 : Int) = (3 : Int) then [] else []
    refine ⟨by first | omega | (dsimp only; omega), ?_⟩ -- (0 : Int) ≤ (0 : Int) ∧ (0 : Int) ≤ (255 : Int)
    refine ⟨by first | omega | (dsimp only; omega), ?_⟩ -- (-9223372036854775808 : Int) ≤ (-1 : Int) ∧ (-1 : Int) ≤ (9223372036854775807 : Int)
    intro e_34
    intro ys_35
    intro us_36
    intro h18 -- e_34 = wE (0 : Nat) (0 : Nat) (0 : Int) (-1 : Int)
    intro h19 -- e_34 = (0 : Int) → ys_35 = [] ++ wOut [] (0 : Int) (-1 : Int)
    intro h20 -- e_34 = (0 : Int) → us_36 = if (0 : Int) = (3 : Int) then [] else []
    refine ⟨?_, ?_⟩
    · -- left
      intro e_40
      intro h21 -- e_40 = rE (List.take (1 : Nat) (List.drop (0 : Nat) [List.take (1 : Nat) (List.drop (0 : Nat) [UInt8.ofNat (Int.toNat (1 : Int))])])) [] []
      intro h22 -- e_40 ≠ (0 : Int)
      refine ⟨?_, ?_⟩
      · -- left
        refine ⟨by first | omega | (dsimp only; omega), ?_⟩ -- (0 : Int) ≤ (16385 : Int)
        refine ⟨by first | omega | (dsimp only; omega), ?_⟩ -- (16385 : Int) ≤ (16385 : Int)
        exact by omega -- (16385 : Int) * (↑(1 : Nat) : Int) ≤ (140737488355328 : Int)
      refine ⟨by first | omega | (dsimp only; omega), ?_⟩ -- (0 : Int) ≤ (0 : Int) ∧ (0 : Int) ≤ (255 : Int)
      refine ⟨by first | omega | (dsimp only; omega), ?_⟩ -- (-9223372036854775808 : Int) ≤ (0 : Int) ∧ (0 : Int) ≤ (9223372036854775807 : Int)
      intro e_43
      intro ys_44
      intro us_45
      intro h23 -- e_43 = wE (0 : Nat) (List.take (Int.toNat (16385 : Int)) (List.drop (0 : Nat) (List.replicate (Int.toNat (16385 : Int)) (UInt8.ofNat (Int.toNat (0 : Int)))))).length (0 : Int) (0 : Int)
      intro h24 -- e_43 = (0 : Int) → ys_44 = [] ++ wOut (List.take (Int.toNat (16385 : Int)) (List.drop (0 : Nat) (List.replicate (Int.toNat (16385 : Int)) (UInt8.ofNat (Int.toNat (0 : Int)))))) (0 : Int) (0 : Int)
      intro h25 -- e_43 = (0 : Int) → us_45 = if (0 : Int) = (3 : Int) then List.take (Int.toNat (16385 : Int)) (List.drop (0 : Nat) (List.replicate (Int.toNat (16385 : Int)) (UInt8.ofNat (Int.toNat (0 : Int))))) else []
      intro n49
      intro q49 -- n49 = (0 : Int)
      refine br_intro (fun c26 => ?_) (fun c26 => ?_) -- bif !true then true else n49 != (3 : Int)
      · -- yes
        simp at c26 -- ¬n49 = (3 : Int)
        -- k (AV.bool false) [] []
        exact absurd (h13.trans (by decide +kernel)) h14
      · -- no
        simp at c26 -- n49 = (3 : Int)
        exfalso; omega
    intro q49 -- rE (List.take (1 : Nat) (List.drop (0 : Nat) [List.take (1 : Nat) (List.drop (0 : Nat) [UInt8.ofNat (Int.toNat (1 : Int))])])) [] [] = (0 : Int)
    intro ys_52
    intro h27 -- ys_52 = outs (List.take (1 : Nat) (List.drop (0 : Nat) [List.take (1 : Nat) (List.drop (0 : Nat) [UInt8.ofNat (Int.toNat (1 : Int))])])) [] [] (List.take (1 : Nat) (List.drop (0 : Nat) [List.take (1 : Nat) (List.drop (0 : Nat) [UInt8.ofNat (Int.toNat (1 : Int))])])).length
    refine ⟨?_, ?_⟩
    · -- left
      refine ⟨by first | omega | (dsimp only; omega), ?_⟩ -- (0 : Int) ≤ (16385 : Int)
      refine ⟨by first | omega | (dsimp only; omega), ?_⟩ -- (16385 : Int) ≤ (16385 : Int)
      exact by omega -- (16385 : Int) * (↑(1 : Nat) : Int) ≤ (140737488355328 : Int)
    refine ⟨by first | omega | (dsimp only; omega), ?_⟩ -- (0 : Int) ≤ (0 : Int) ∧ (0 : Int) ≤ (255 : Int)
    refine ⟨by first | omega | (dsimp only; omega), ?_⟩ -- (-9223372036854775808 : Int) ≤ (0 : Int) ∧ (0 : Int) ≤ (9223372036854775807 : Int)
    intro e_54
    intro ys_55
    intro us_56
    intro h28 -- e_54 = wE (0 : Nat) (List.take (Int.toNat (16385 : Int)) (List.drop (0 : Nat) (List.replicate (Int.toNat (16385 : Int)) (UInt8.ofNat (Int.toNat (0 : Int)))))).length (0 : Int) (0 : Int)
    intro h29 -- e_54 = (0 : Int) → ys_55 = [] ++ wOut (List.take (Int.toNat (16385 : Int)) (List.drop (0 : Nat) (List.replicate (Int.toNat (16385 : Int)) (UInt8.ofNat (Int.toNat (0 : Int)))))) (0 : Int) (0 : Int)
    intro h30 -- e_54 = (0 : Int) → us_56 = if (0 : Int) = (3 : Int) then List.take (Int.toNat (16385 : Int)) (List.drop (0 : Nat) (List.replicate (Int.toNat (16385 : Int)) (UInt8.ofNat (Int.toNat (0 : Int))))) else []
    intro n60
    intro q60 -- n60 = (0 : Int)
    refine br_intro (fun c31 => ?_) (fun c31 => ?_) -- bif !true then true else n60 != (3 : Int)
    · -- yes
      simp at c31 -- ¬n60 = (3 : Int)
      -- k (AV.bool false) [] []
      exact absurd (h13.trans (by decide +kernel)) h14
    · -- no
      simp at c31 -- n60 = (3 : Int)
      exfalso; omega
  intro q60 -- rE (List.take (3 : Nat) (List.drop (0 : Nat) [List.take (1 : Nat) (List.drop (0 : Nat) [UInt8.ofNat (Int.toNat (1 : Int))]), List.take (1 : Nat) (List.drop (0 : Nat) [UInt8.ofNat (Int.toNat (2 : Int))]), List.take (1 : Nat) (List.drop (0 : Nat) [UInt8.ofNat (Int.toNat (3 : Int))])])) (List.take (3 : Nat) (List.drop (0 : Nat) [UInt8.ofNat (Int.toNat (3 : Int)), UInt8.ofNat (Int.toNat (1 : Int)), UInt8.ofNat (Int.toNat (0 : Int))])) (List.take (3 : Nat) (List.drop (0 : Nat) [(0 : Int), (0 : Int), (0 : Int)])) = (0 : Int)
  intro ys_63
  intro h32 -- ys_63 = outs (List.take (3 : Nat) (List.drop (0 : Nat) [List.take (1 : Nat) (List.drop (0 : Nat) [UInt8.ofNat (Int.toNat (1 : Int))]), List.take (1 : Nat) (List.drop (0 : Nat) [UInt8.ofNat (Int.toNat (2 : Int))]), List.take (1 : Nat) (List.drop (0 : Nat) [UInt8.ofNat (Int.toNat (3 : Int))])])) (List.take (3 : Nat) (List.drop (0 : Nat) [UInt8.ofNat (Int.toNat (3 : Int)), UInt8.ofNat (Int.toNat (1 : Int)), UInt8.ofNat (Int.toNat (0 : Int))])) (List.take (3 : Nat) (List.drop (0 : Nat) [(0 : Int), (0 : Int), (0 : Int)])) (List.take (3 : Nat) (List.drop (0 : Nat) [List.take (1 : Nat) (List.drop (0 : Nat) [UInt8.ofNat (Int.toNat (1 : Int))]), List.take (1 : Nat) (List.drop (0 : Nat) [UInt8.ofNat (Int.toNat (2 : Int))]), List.take (1 : Nat) (List.drop (0 : Nat) [UInt8.ofNat (Int.toNat (3 : Int))])])).length
  refine ⟨by first | omega | (dsimp only; omega), ?_⟩ -- (0 : Int) ≤ (5 : Int) ∧ (5 : Int) ≤ (255 : Int)
  refine ⟨by first | omega | (dsimp only; omega), ?_⟩ -- (-9223372036854775808 : Int) ≤ (0 : Int) ∧ (0 : Int) ≤ (9223372036854775807 : Int)
  intro e_65
  intro ys_66
  intro us_67
  intro h33 -- e_65 = wE (0 : Nat) (0 : Nat) (5 : Int) (0 : Int)
  intro h34 -- e_65 = (0 : Int) → ys_66 = [] ++ wOut [] (5 : Int) (0 : Int)
  intro h35 -- e_65 = (0 : Int) → us_67 = if (5 : Int) = (3 : Int) then [] else []
  refine ⟨by first | omega | (dsimp only; omega), ?_⟩ -- (0 : Int) ≤ (0 : Int) ∧ (0 : Int) ≤ (255 : Int)
  refine ⟨by first | omega | (dsimp only; omega), ?_⟩ -- (-9223372036854775808 : Int) ≤ (-1 : Int) ∧ (-1 : Int) ≤ (9223372036854775807 : Int)
  intro e_71
  intro ys_72
  intro us_73
  intro h36 -- e_71 = wE (0 : Nat) (0 : Nat) (0 : Int) (-1 : Int)
  intro h37 -- e_71 = (0 : Int) → ys_72 = [] ++ wOut [] (0 : Int) (-1 : Int)
  intro h38 -- e_71 = (0 : Int) → us_73 = if (0 : Int) = (3 : Int) then [] else []
  refine ⟨?_, ?_⟩
  · -- left
    intro e_77
    intro h39 -- e_77 = rE (List.take (1 : Nat) (List.drop (0 : Nat) [List.take (1 : Nat) (List.drop (0 : Nat) [UInt8.ofNat (Int.toNat (1 : Int))])])) [] []
    intro h40 -- e_77 ≠ (0 : Int)
    refine ⟨?_, ?_⟩
    · -- left
      refine ⟨by first | omega | (dsimp only; omega), ?_⟩ -- (0 : Int) ≤ (16385 : Int)
      refine ⟨by first | omega | (dsimp only; omega), ?_⟩ -- (16385 : Int) ≤ (16385 : Int)
      exact by omega -- (16385 : Int) * (↑(1 : Nat) : Int) ≤ (140737488355328 : Int)
    refine ⟨by first | omega | (dsimp only; omega), ?_⟩ -- (0 : Int) ≤ (0 : Int) ∧ (0 : Int) ≤ (255 : Int)
    refine ⟨by first | omega | (dsimp only; omega), ?_⟩ -- (-9223372036854775808 : Int) ≤ (0 : Int) ∧ (0 : Int) ≤ (9223372036854775807 : Int)
    intro e_80
    intro ys_81
    intro us_82
    intro h41 -- e_80 = wE (0 : Nat) (List.take (Int.toNat (16385 : Int)) (List.drop (0 : Nat) (List.replicate (Int.toNat (16385 : Int)) (UInt8.ofNat (Int.toNat (0 : Int)))))).length (0 : Int) (0 : Int)
    intro h42 -- e_80 = (0 : Int) → ys_81 = [] ++ wOut (List.take (Int.toNat (16385 : Int)) (List.drop (0 : Nat) (List.replicate (Int.toNat (16385 : Int)) (UInt8.ofNat (Int.toNat (0 : Int)))))) (0 : Int) (0 : Int)
    intro h43 -- e_80 = (0 : Int) → us_82 = if (0 : Int) = (3 : Int) then List.take (Int.toNat (16385 : Int)) (List.drop (0 : Nat) (List.replicate (Int.toNat (16385 : Int)) (UInt8.ofNat (Int.toNat (0 : Int))))) else []
    intro n86
    intro q86 -- n86 = (↑(List.take (3 : Nat) (List.drop (0 : Nat) [List.take (1 : Nat) (List.drop (0 : Nat) [UInt8.ofNat (Int.toNat (1 : Int))]), List.take (1 : Nat) (List.drop (0 : Nat) [UInt8.ofNat (Int.toNat (2 : Int))]), List.take (1 : Nat) (List.drop (0 : Nat) [UInt8.ofNat (Int.toNat (3 : Int))])])).length : Int)
    refine br_intro (fun c44 => ?_) (fun c44 => ?_) -- bif !true then true else n86 != (3 : Int)
    · -- yes
      simp at c44 -- ¬n86 = (3 : Int)
      -- k (AV.bool false) [] []
      exact absurd (q86.trans (by decide +kernel)) c44
    · -- no
      simp at c44 -- n86 = (3 : Int)
      refine ⟨?_, ?_⟩
      · -- left
        intro q86 -- (bif bif true then bif bif bif bif bif bif bif bif e_1 == (0 : Int) then { data := ys_2.toArray : ByteArray }.data.toList == { data := #[(1 : UInt8), (2 : UInt8), (3 : UInt8), (4 : UInt8)] : ByteArray }.data.toList else false then e_7 == (0 : Int) else false then { data := ys_8.toArray : ByteArray }.data.toList == { data := #[(1 : UInt8), (2 : UInt8)] : ByteArray }.data.toList else false then { data := us_9.toArray : ByteArray }.data.toList == { data := #[(3 : UInt8), (4 : UInt8)] : ByteArray }.data.toList else false then e_13 == (0 : Int) else false then { data := ys_14.toArray : ByteArray }.data.toList == { data := #[(1 : UInt8), (2 : UInt8), (252 : UInt8)] : ByteArray }.data.toList else false then e_19 == (0 : Int) else false then { data := ys_20.toArray : ByteArray }.data.toList == { data := #[(1 : UInt8)] : ByteArray }.data.toList else false else false then (0 : Int) == (0 : Int) else false) = true
        simp at q86 -- (((((((e_1 = (0 : Int) ∧ ys_2 = [(1 : UInt8), (2 : UInt8), (3 : UInt8), (4 : UInt8)]) ∧ e_7 = (0 : Int)) ∧ ys_8 = [(1 : UInt8), (2 : UInt8)]) ∧ us_9 = [(3 : UInt8), (4 : UInt8)]) ∧ e_13 = (0 : Int)) ∧ ys_14 = [(1 : UInt8), (2 : UInt8), (252 : UInt8)]) ∧ e_19 = (0 : Int)) ∧ ys_20 = [(1 : UInt8)]
        refine ⟨by first | omega | (dsimp only; omega), ?_⟩ -- (0 : Int) ≤ (0 : Int)
        exact by omega -- (0 : Int) < (↑(List.take (3 : Nat) (List.drop (0 : Nat) [List.take (1 : Nat) (List.drop (0 : Nat) [UInt8.ofNat (Int.toNat (1 : Int))]), List.take (1 : Nat) (List.drop (0 : Nat) [UInt8.ofNat (Int.toNat (2 : Int))]), List.take (1 : Nat) (List.drop (0 : Nat) [UInt8.ofNat (Int.toNat (3 : Int))])])).length : Int)
      refine ⟨?_, ?_⟩
      · -- left
        intro q86 -- (bif bif true then bif bif bif bif bif bif bif bif e_1 == (0 : Int) then { data := ys_2.toArray : ByteArray }.data.toList == { data := #[(1 : UInt8), (2 : UInt8), (3 : UInt8), (4 : UInt8)] : ByteArray }.data.toList else false then e_7 == (0 : Int) else false then { data := ys_8.toArray : ByteArray }.data.toList == { data := #[(1 : UInt8), (2 : UInt8)] : ByteArray }.data.toList else false then { data := us_9.toArray : ByteArray }.data.toList == { data := #[(3 : UInt8), (4 : UInt8)] : ByteArray }.data.toList else false then e_13 == (0 : Int) else false then { data := ys_14.toArray : ByteArray }.data.toList == { data := #[(1 : UInt8), (2 : UInt8), (252 : UInt8)] : ByteArray }.data.toList else false then e_19 == (0 : Int) else false then { data := ys_20.toArray : ByteArray }.data.toList == { data := #[(1 : UInt8)] : ByteArray }.data.toList else false else false then (0 : Int) == (0 : Int) else false) = true
        simp at q86 -- (((((((e_1 = (0 : Int) ∧ ys_2 = [(1 : UInt8), (2 : UInt8), (3 : UInt8), (4 : UInt8)]) ∧ e_7 = (0 : Int)) ∧ ys_8 = [(1 : UInt8), (2 : UInt8)]) ∧ us_9 = [(3 : UInt8), (4 : UInt8)]) ∧ e_13 = (0 : Int)) ∧ ys_14 = [(1 : UInt8), (2 : UInt8), (252 : UInt8)]) ∧ e_19 = (0 : Int)) ∧ ys_20 = [(1 : UInt8)]
        -- (0 : Nat) + Int.toNat (0 : Int) < ys_63.length
        rw [h32, outs_length]; decide +kernel
      intro n89
      intro q89 -- n89 = (↑(ys_63.getD ((0 : Nat) + Int.toNat (0 : Int)) (dflt (6 : Nat))).length : Int)
      refine ⟨?_, ?_⟩
      · -- left
        intro q89 -- (bif bif bif true then bif bif bif bif bif bif bif bif e_1 == (0 : Int) then { data := ys_2.toArray : ByteArray }.data.toList == { data := #[(1 : UInt8), (2 : UInt8), (3 : UInt8), (4 : UInt8)] : ByteArray }.data.toList else false then e_7 == (0 : Int) else false then { data := ys_8.toArray : ByteArray }.data.toList == { data := #[(1 : UInt8), (2 : UInt8)] : ByteArray }.data.toList else false then { data := us_9.toArray : ByteArray }.data.toList == { data := #[(3 : UInt8), (4 : UInt8)] : ByteArray }.data.toList else false then e_13 == (0 : Int) else false then { data := ys_14.toArray : ByteArray }.data.toList == { data := #[(1 : UInt8), (2 : UInt8), (252 : UInt8)] : ByteArray }.data.toList else false then e_19 == (0 : Int) else false then { data := ys_20.toArray : ByteArray }.data.toList == { data := #[(1 : UInt8)] : ByteArray }.data.toList else false else false then (0 : Int) == (0 : Int) else false then n89 == (0 : Int) else false) = true
        simp at q89 -- ((((((((e_1 = (0 : Int) ∧ ys_2 = [(1 : UInt8), (2 : UInt8), (3 : UInt8), (4 : UInt8)]) ∧ e_7 = (0 : Int)) ∧ ys_8 = [(1 : UInt8), (2 : UInt8)]) ∧ us_9 = [(3 : UInt8), (4 : UInt8)]) ∧ e_13 = (0 : Int)) ∧ ys_14 = [(1 : UInt8), (2 : UInt8), (252 : UInt8)]) ∧ e_19 = (0 : Int)) ∧ ys_20 = [(1 : UInt8)]) ∧ n89 = (0 : Int)
        refine ⟨by first | omega | (dsimp only; omega), ?_⟩ -- (0 : Int) ≤ (1 : Int)
        exact by omega -- (1 : Int) < (↑(List.take (3 : Nat) (List.drop (0 : Nat) [List.take (1 : Nat) (List.drop (0 : Nat) [UInt8.ofNat (Int.toNat (1 : Int))]), List.take (1 : Nat) (List.drop (0 : Nat) [UInt8.ofNat (Int.toNat (2 : Int))]), List.take (1 : Nat) (List.drop (0 : Nat) [UInt8.ofNat (Int.toNat (3 : Int))])])).length : Int)
      refine ⟨?_, ?_⟩
      · -- left
        intro q89 -- (bif bif bif true then bif bif bif bif bif bif bif bif e_1 == (0 : Int) then { data := ys_2.toArray : ByteArray }.data.toList == { data := #[(1 : UInt8), (2 : UInt8), (3 : UInt8), (4 : UInt8)] : ByteArray }.data.toList else false then e_7 == (0 : Int) else false then { data := ys_8.toArray : ByteArray }.data.toList == { data := #[(1 : UInt8), (2 : UInt8)] : ByteArray }.data.toList else false then { data := us_9.toArray : ByteArray }.data.toList == { data := #[(3 : UInt8), (4 : UInt8)] : ByteArray }.data.toList else false then e_13 == (0 : Int) else false then { data := ys_14.toArray : ByteArray }.data.toList == { data := #[(1 : UInt8), (2 : UInt8), (252 : UInt8)] : ByteArray }.data.toList else false then e_19 == (0 : Int) else false then { data := ys_20.toArray : ByteArray }.data.toList == { data := #[(1 : UInt8)] : ByteArray }.data.toList else false else false then (0 : Int) == (0 : Int) else false then n89 == (0 : Int) else false) = true
        simp at q89 -- ((((((((e_1 = (0 : Int) ∧ ys_2 = [(1 : UInt8), (2 : UInt8), (3 : UInt8), (4 : UInt8)]) ∧ e_7 = (0 : Int)) ∧ ys_8 = [(1 : UInt8), (2 : UInt8)]) ∧ us_9 = [(3 : UInt8), (4 : UInt8)]) ∧ e_13 = (0 : Int)) ∧ ys_14 = [(1 : UInt8), (2 : UInt8), (252 : UInt8)]) ∧ e_19 = (0 : Int)) ∧ ys_20 = [(1 : UInt8)]) ∧ n89 = (0 : Int)
        -- (0 : Nat) + Int.toNat (1 : Int) < ys_63.length
        rw [h32, outs_length]; decide +kernel
      refine ⟨?_, ?_⟩
      · -- left
        intro q89 -- (bif bif bif bif true then bif bif bif bif bif bif bif bif e_1 == (0 : Int) then { data := ys_2.toArray : ByteArray }.data.toList == { data := #[(1 : UInt8), (2 : UInt8), (3 : UInt8), (4 : UInt8)] : ByteArray }.data.toList else false then e_7 == (0 : Int) else false then { data := ys_8.toArray : ByteArray }.data.toList == { data := #[(1 : UInt8), (2 : UInt8)] : ByteArray }.data.toList else false then { data := us_9.toArray : ByteArray }.data.toList == { data := #[(3 : UInt8), (4 : UInt8)] : ByteArray }.data.toList else false then e_13 == (0 : Int) else false then { data := ys_14.toArray : ByteArray }.data.toList == { data := #[(1 : UInt8), (2 : UInt8), (252 : UInt8)] : ByteArray }.data.toList else false then e_19 == (0 : Int) else false then { data := ys_20.toArray : ByteArray }.data.toList == { data := #[(1 : UInt8)] : ByteArray }.data.toList else false else false then (0 : Int) == (0 : Int) else false then n89 == (0 : Int) else false then { data := (ys_63.getD ((0 : Nat) + Int.toNat (1 : Int)) (dflt (6 : Nat))).toArray : ByteArray }.data.toList == { data := #[(1 : UInt8)] : ByteArray }.data.toList else false) = true
        simp at q89 -- (((((((((e_1 = (0 : Int) ∧ ys_2 = [(1 : UInt8), (2 : UInt8), (3 : UInt8), (4 : UInt8)]) ∧ e_7 = (0 : Int)) ∧ ys_8 = [(1 : UInt8), (2 : UInt8)]) ∧ us_9 = [(3 : UInt8), (4 : UInt8)]) ∧ e_13 = (0 : Int)) ∧ ys_14 = [(1 : UInt8), (2 : UInt8), (252 : UInt8)]) ∧ e_19 = (0 : Int)) ∧ ys_20 = [(1 : UInt8)]) ∧ n89 = (0 : Int)) ∧ ys_63[(1 : Nat)]?.getD (dflt (6 : Nat)) = [(1 : UInt8)]
        refine ⟨by first | omega | (dsimp only; omega), ?_⟩ -- (0 : Int) ≤ (2 : Int)
        exact by omega -- (2 : Int) < (↑(List.take (3 : Nat) (List.drop (0 : Nat) [List.take (1 : Nat) (List.drop (0 : Nat) [UInt8.ofNat (Int.toNat (1 : Int))]), List.take (1 : Nat) (List.drop (0 : Nat) [UInt8.ofNat (Int.toNat (2 : Int))]), List.take (1 : Nat) (List.drop (0 : Nat) [UInt8.ofNat (Int.toNat (3 : Int))])])).length : Int)
      refine ⟨?_, ?_⟩
      · -- left
        intro q89 -- (bif bif bif bif true then bif bif bif bif bif bif bif bif e_1 == (0 : Int) then { data := ys_2.toArray : ByteArray }.data.toList == { data := #[(1 : UInt8), (2 : UInt8), (3 : UInt8), (4 : UInt8)] : ByteArray }.data.toList else false then e_7 == (0 : Int) else false then { data := ys_8.toArray : ByteArray }.data.toList == { data := #[(1 : UInt8), (2 : UInt8)] : ByteArray }.data.toList else false then { data := us_9.toArray : ByteArray }.data.toList == { data := #[(3 : UInt8), (4 : UInt8)] : ByteArray }.data.toList else false then e_13 == (0 : Int) else false then { data := ys_14.toArray : ByteArray }.data.toList == { data := #[(1 : UInt8), (2 : UInt8), (252 : UInt8)] : ByteArray }.data.toList else false then e_19 == (0 : Int) else false then { data := ys_20.toArray : ByteArray }.data.toList == { data := #[(1 : UInt8)] : ByteArray }.data.toList else false else false then (0 : Int) == (0 : Int) else false then n89 == (0 : Int) else false then { data := (ys_63.getD ((0 : Nat) + Int.toNat (1 : Int)) (dflt (6 : Nat))).toArray : ByteArray }.data.toList == { data := #[(1 : UInt8)] : ByteArray }.data.toList else false) = true
        simp at q89 -- (((((((((e_1 = (0 : Int) ∧ ys_2 = [(1 : UInt8), (2 : UInt8), (3 : UInt8), (4 : UInt8)]) ∧ e_7 = (0 : Int)) ∧ ys_8 = [(1 : UInt8), (2 : UInt8)]) ∧ us_9 = [(3 : UInt8), (4 : UInt8)]) ∧ e_13 = (0 : Int)) ∧ ys_14 = [(1 : UInt8), (2 : UInt8), (252 : UInt8)]) ∧ e_19 = (0 : Int)) ∧ ys_20 = [(1 : UInt8)]) ∧ n89 = (0 : Int)) ∧ ys_63[(1 : Nat)]?.getD (dflt (6 : Nat)) = [(1 : UInt8)]
        -- (0 : Nat) + Int.toNat (2 : Int) < ys_63.length
        rw [h32, outs_length]; decide +kernel
      -- k (AV.bool (bif bif bif bif bif bif bif bif bif true then bif bif bif bif bif bif bif bif e_1 == (0 : Int) then { data := ys_2.toArray : ByteArray }.data.toList == { data := #[(1 : UInt8), (2 : UInt8), (3 : UInt8), (4 : UInt8)] : ByteArray }.data.toList else false then e_7 == (0 : Int) else false then { data := ys_8.toArray : ByteArray }.data.toList == { data := #[(1 : UInt8), (2 : UInt8)] : ByteArray }.data.toList else false then { data := us_9.toArray : ByteArray }.data.toList == { data := #[(3 : UInt8), (4 : UInt8)] : ByteArray }.data.toList else false then e_13 == (0 : Int) else false then { data := ys_14.toArray : ByteArray }.data.toList == { data := #[(1 : UInt8), (2 : UInt8), (252 : UInt8)] : ByteArray }.data.toList else false then e_19 == (0 : Int) else false then { data := ys_20.toArray : ByteArray }.data.toList == { data := #[(1 : UInt8)] : ByteArray }.data.toList else false else false then (0 : Int) == (0 : Int) else false then n89 == (0 : Int) else false then { data := (ys_63.getD ((0 : Nat) + Int.toNat (1 : Int)) (dflt (6 : Nat))).toArray : ByteArray }.data.toList == { data := #[(1 : UInt8)] : ByteArray }.data.toList else false then { data := (ys_63.getD ((0 : Nat) + Int.toNat (2 : Int)) (dflt (6 : Nat))).toArray : ByteArray }.data.toList == { data := #[(3 : UInt8)] : ByteArray }.data.toList else false then e_65 == (2 : Int) else false then e_71 == (2 : Int) else false then e_77 == (4 : Int) else false then e_80 == (3 : Int) else false)) [] []
      have E1 : e_1 = 0 := h1.trans (by decide +kernel)
      have E7 : e_7 = 0 := h4.trans (by decide +kernel)
      have E13 : e_13 = 0 := h7.trans (by decide +kernel)
      have E19 : e_19 = 0 := h10.trans (by decide +kernel)
      have Y2 : ys_2 = [1, 2, 3, 4] := (h2 E1).trans (by decide +kernel)
      have Y8 : ys_8 = [1, 2] := (h5 E7).trans (by decide +kernel)
      have U9 : us_9 = [3, 4] := (h6 E7).trans (by decide +kernel)
      have Y14 : ys_14 = [1, 2, 252] := (h8 E13).trans (by decide +kernel)
      have Y20 : ys_20 = [1] := (h11 E19).trans (by decide +kernel)
      have E65 : e_65 = 2 := h33.trans (by decide +kernel)
      have E71 : e_71 = 2 := h36.trans (by decide +kernel)
      have E77 : e_77 = 4 := h39.trans (by decide +kernel)
      have E80 : e_80 = 3 := by
        rw [h41]; simp only [List.drop_zero, List.length_take, List.length_replicate, Nat.min_self]; decide +kernel
      have Y63 : ys_63 = [[], [1], [3]] := h32.trans (by decide +kernel)
      rw [Y63] at q89
      exact k_true hk (by rw [E1, E7, E13, E19, Y2, Y8, U9, Y14, Y20, E65, E71, E77, E80, Y63, q89]; decide +kernel)
  intro q89 -- rE (List.take (1 : Nat) (List.drop (0 : Nat) [List.take (1 : Nat) (List.drop (0 : Nat) [UInt8.ofNat (Int.toNat (1 : Int))])])) [] [] = (0 : Int)
  intro ys_94
  intro h45 -- ys_94 = outs (List.take (1 : Nat) (List.drop (0 : Nat) [List.take (1 : Nat) (List.drop (0 : Nat) [UInt8.ofNat (Int.toNat (1 : Int))])])) [] [] (List.take (1 : Nat) (List.drop (0 : Nat) [List.take (1 : Nat) (List.drop (0 : Nat) [UInt8.ofNat (Int.toNat (1 : Int))])])).length
  refine ⟨?_, ?_⟩
  · -- left
    refine ⟨by first | omega | (dsimp only; omega), ?_⟩ -- (0 : Int) ≤ (16385 : Int)
    refine ⟨by first | omega | (dsimp only; omega), ?_⟩ -- (16385 : Int) ≤ (16385 : Int)
    exact by omega -- (16385 : Int) * (↑(1 : Nat) : Int) ≤ (140737488355328 : Int)
  refine ⟨by first | omega | (dsimp only; omega), ?_⟩ -- (0 : Int) ≤ (0 : Int) ∧ (0 : Int) ≤ (255 : Int)
  refine ⟨by first | omega | (dsimp only; omega), ?_⟩ -- (-9223372036854775808 : Int) ≤ (0 : Int) ∧ (0 : Int) ≤ (9223372036854775807 : Int)
  intro e_96
  intro ys_97
  intro us_98
  intro h46 -- e_96 = wE (0 : Nat) (List.take (Int.toNat (16385 : Int)) (List.drop (0 : Nat) (List.replicate (Int.toNat (16385 : Int)) (UInt8.ofNat (Int.toNat (0 : Int)))))).length (0 : Int) (0 : Int)
  intro h47 -- e_96 = (0 : Int) → ys_97 = [] ++ wOut (List.take (Int.toNat (16385 : Int)) (List.drop (0 : Nat) (List.replicate (Int.toNat (16385 : Int)) (UInt8.ofNat (Int.toNat (0 : Int)))))) (0 : Int) (0 : Int)
  intro h48 -- e_96 = (0 : Int) → us_98 = if (0 : Int) = (3 : Int) then List.take (Int.toNat (16385 : Int)) (List.drop (0 : Nat) (List.replicate (Int.toNat (16385 : Int)) (UInt8.ofNat (Int.toNat (0 : Int))))) else []
  intro n102
  intro q102 -- n102 = (↑(List.take (3 : Nat) (List.drop (0 : Nat) [List.take (1 : Nat) (List.drop (0 : Nat) [UInt8.ofNat (Int.toNat (1 : Int))]), List.take (1 : Nat) (List.drop (0 : Nat) [UInt8.ofNat (Int.toNat (2 : Int))]), List.take (1 : Nat) (List.drop (0 : Nat) [UInt8.ofNat (Int.toNat (3 : Int))])])).length : Int)
  refine br_intro (fun c49 => ?_) (fun c49 => ?_) -- bif !true then true else n102 != (3 : Int)
  · -- yes
    simp at c49 -- ¬n102 = (3 : Int)
    -- k (AV.bool false) [] []
    exact absurd q89 (by decide +kernel)
  · -- no
    simp at c49 -- n102 = (3 : Int)
    refine ⟨?_, ?_⟩
    · -- left
      intro q102 -- (bif bif true then bif bif bif bif bif bif bif bif e_1 == (0 : Int) then { data := ys_2.toArray : ByteArray }.data.toList == { data := #[(1 : UInt8), (2 : UInt8), (3 : UInt8), (4 : UInt8)] : ByteArray }.data.toList else false then e_7 == (0 : Int) else false then { data := ys_8.toArray : ByteArray }.data.toList == { data := #[(1 : UInt8), (2 : UInt8)] : ByteArray }.data.toList else false then { data := us_9.toArray : ByteArray }.data.toList == { data := #[(3 : UInt8), (4 : UInt8)] : ByteArray }.data.toList else false then e_13 == (0 : Int) else false then { data := ys_14.toArray : ByteArray }.data.toList == { data := #[(1 : UInt8), (2 : UInt8), (252 : UInt8)] : ByteArray }.data.toList else false then e_19 == (0 : Int) else false then { data := ys_20.toArray : ByteArray }.data.toList == { data := #[(1 : UInt8)] : ByteArray }.data.toList else false else false then (0 : Int) == (0 : Int) else false) = true
      simp at q102 -- (((((((e_1 = (0 : Int) ∧ ys_2 = [(1 : UInt8), (2 : UInt8), (3 : UInt8), (4 : UInt8)]) ∧ e_7 = (0 : Int)) ∧ ys_8 = [(1 : UInt8), (2 : UInt8)]) ∧ us_9 = [(3 : UInt8), (4 : UInt8)]) ∧ e_13 = (0 : Int)) ∧ ys_14 = [(1 : UInt8), (2 : UInt8), (252 : UInt8)]) ∧ e_19 = (0 : Int)) ∧ ys_20 = [(1 : UInt8)]
      refine ⟨by first | omega | (dsimp only; omega), ?_⟩ -- (0 : Int) ≤ (0 : Int)
      exact by omega -- (0 : Int) < (↑(List.take (3 : Nat) (List.drop (0 : Nat) [List.take (1 : Nat) (List.drop (0 : Nat) [UInt8.ofNat (Int.toNat (1 : Int))]), List.take (1 : Nat) (List.drop (0 : Nat) [UInt8.ofNat (Int.toNat (2 : Int))]), List.take (1 : Nat) (List.drop (0 : Nat) [UInt8.ofNat (Int.toNat (3 : Int))])])).length : Int)
    refine ⟨?_, ?_⟩
    · -- left
      intro q102 -- (bif bif true then bif bif bif bif bif bif bif bif e_1 == (0 : Int) then { data := ys_2.toArray : ByteArray }.data.toList == { data := #[(1 : UInt8), (2 : UInt8), (3 : UInt8), (4 : UInt8)] : ByteArray }.data.toList else false then e_7 == (0 : Int) else false then { data := ys_8.toArray : ByteArray }.data.toList == { data := #[(1 : UInt8), (2 : UInt8)] : ByteArray }.data.toList else false then { data := us_9.toArray : ByteArray }.data.toList == { data := #[(3 : UInt8), (4 : UInt8)] : ByteArray }.data.toList else false then e_13 == (0 : Int) else false then { data := ys_14.toArray : ByteArray }.data.toList == { data := #[(1 : UInt8), (2 : UInt8), (252 : UInt8)] : ByteArray }.data.toList else false then e_19 == (0 : Int) else false then { data := ys_20.toArray : ByteArray }.data.toList == { data := #[(1 : UInt8)] : ByteArray }.data.toList else false else false then (0 : Int) == (0 : Int) else false) = true
      simp at q102 -- (((((((e_1 = (0 : Int) ∧ ys_2 = [(1 : UInt8), (2 : UInt8), (3 : UInt8), (4 : UInt8)]) ∧ e_7 = (0 : Int)) ∧ ys_8 = [(1 : UInt8), (2 : UInt8)]) ∧ us_9 = [(3 : UInt8), (4 : UInt8)]) ∧ e_13 = (0 : Int)) ∧ ys_14 = [(1 : UInt8), (2 : UInt8), (252 : UInt8)]) ∧ e_19 = (0 : Int)) ∧ ys_20 = [(1 : UInt8)]
      -- (0 : Nat) + Int.toNat (0 : Int) < ys_63.length
      exact absurd q89 (by decide +kernel)
    intro n105
    intro q105 -- n105 = (↑(ys_63.getD ((0 : Nat) + Int.toNat (0 : Int)) (dflt (6 : Nat))).length : Int)
    refine ⟨?_, ?_⟩
    · -- left
      intro q105 -- (bif bif bif true then bif bif bif bif bif bif bif bif e_1 == (0 : Int) then { data := ys_2.toArray : ByteArray }.data.toList == { data := #[(1 : UInt8), (2 : UInt8), (3 : UInt8), (4 : UInt8)] : ByteArray }.data.toList else false then e_7 == (0 : Int) else false then { data := ys_8.toArray : ByteArray }.data.toList == { data := #[(1 : UInt8), (2 : UInt8)] : ByteArray }.data.toList else false then { data := us_9.toArray : ByteArray }.data.toList == { data := #[(3 : UInt8), (4 : UInt8)] : ByteArray }.data.toList else false then e_13 == (0 : Int) else false then { data := ys_14.toArray : ByteArray }.data.toList == { data := #[(1 : UInt8), (2 : UInt8), (252 : UInt8)] : ByteArray }.data.toList else false then e_19 == (0 : Int) else false then { data := ys_20.toArray : ByteArray }.data.toList == { data := #[(1 : UInt8)] : ByteArray }.data.toList else false else false then (0 : Int) == (0 : Int) else false then n105 == (0 : Int) else false) = true
      simp at q105 -- ((((((((e_1 = (0 : Int) ∧ ys_2 = [(1 : UInt8), (2 : UInt8), (3 : UInt8), (4 : UInt8)]) ∧ e_7 = (0 : Int)) ∧ ys_8 = [(1 : UInt8), (2 : UInt8)]) ∧ us_9 = [(3 : UInt8), (4 : UInt8)]) ∧ e_13 = (0 : Int)) ∧ ys_14 = [(1 : UInt8), (2 : UInt8), (252 : UInt8)]) ∧ e_19 = (0 : Int)) ∧ ys_20 = [(1 : UInt8)]) ∧ n105 = (0 : Int)
      refine ⟨by first | omega | (dsimp only; omega), ?_⟩ -- (0 : Int) ≤ (1 : Int)
      exact by omega -- (1 : Int) < (↑(List.take (3 : Nat) (List.drop (0 : Nat) [List.take (1 : Nat) (List.drop (0 : Nat) [UInt8.ofNat (Int.toNat (1 : Int))]), List.take (1 : Nat) (List.drop (0 : Nat) [UInt8.ofNat (Int.toNat (2 : Int))]), List.take (1 : Nat) (List.drop (0 : Nat) [UInt8.ofNat (Int.toNat (3 : Int))])])).length : Int)
    refine ⟨?_, ?_⟩
    · -- left
      intro q105 -- (bif bif bif true then bif bif bif bif bif bif bif bif e_1 == (0 : Int) then { data := ys_2.toArray : ByteArray }.data.toList == { data := #[(1 : UInt8), (2 : UInt8), (3 : UInt8), (4 : UInt8)] : ByteArray }.data.toList else false then e_7 == (0 : Int) else false then { data := ys_8.toArray : ByteArray }.data.toList == { data := #[(1 : UInt8), (2 : UInt8)] : ByteArray }.data.toList else false then { data := us_9.toArray : ByteArray }.data.toList == { data := #[(3 : UInt8), (4 : UInt8)] : ByteArray }.data.toList else false then e_13 == (0 : Int) else false then { data := ys_14.toArray : ByteArray }.data.toList == { data := #[(1 : UInt8), (2 : UInt8), (252 : UInt8)] : ByteArray }.data.toList else false then e_19 == (0 : Int) else false then { data := ys_20.toArray : ByteArray }.data.toList == { data := #[(1 : UInt8)] : ByteArray }.data.toList else false else false then (0 : Int) == (0 : Int) else false then n105 == (0 : Int) else false) = true
      simp at q105 -- ((((((((e_1 = (0 : Int) ∧ ys_2 = [(1 : UInt8), (2 : UInt8), (3 : UInt8), (4 : UInt8)]) ∧ e_7 = (0 : Int)) ∧ ys_8 = [(1 : UInt8), (2 : UInt8)]) ∧ us_9 = [(3 : UInt8), (4 : UInt8)]) ∧ e_13 = (0 : Int)) ∧ ys_14 = [(1 : UInt8), (2 : UInt8), (252 : UInt8)]) ∧ e_19 = (0 : Int)) ∧ ys_20 = [(1 : UInt8)]) ∧ n105 = (0 : Int)
      -- (0 : Nat) + Int.toNat (1 : Int) < ys_63.length
      exact absurd q89 (by decide +kernel)
    refine ⟨?_, ?_⟩
    · -- left
      intro q105 -- (bif bif bif bif true then bif bif bif bif bif bif bif bif e_1 == (0 : Int) then { data := ys_2.toArray : ByteArray }.data.toList == { data := #[(1 : UInt8), (2 : UInt8), (3 : UInt8), (4 : UInt8)] : ByteArray }.data.toList else false then e_7 == (0 : Int) else false then { data := ys_8.toArray : ByteArray }.data.toList == { data := #[(1 : UInt8), (2 : UInt8)] : ByteArray }.data.toList else false then { data := us_9.toArray : ByteArray }.data.toList == { data := #[(3 : UInt8), (4 : UInt8)] : ByteArray }.data.toList else false then e_13 == (0 : Int) else false then { data := ys_14.toArray : ByteArray }.data.toList == { data := #[(1 : UInt8), (2 : UInt8), (252 : UInt8)] : ByteArray }.data.toList else false then e_19 == (0 : Int) else false then { data := ys_20.toArray : ByteArray }.data.toList == { data := #[(1 : UInt8)] : ByteArray }.data.toList else false else false then (0 : Int) == (0 : Int) else false then n105 == (0 : Int) else false then { data := (ys_63.getD ((0 : Nat) + Int.toNat (1 : Int)) (dflt (6 : Nat))).toArray : ByteArray }.data.toList == { data := #[(1 : UInt8)] : ByteArray }.data.toList else false) = true
      simp at q105 -- (((((((((e_1 = (0 : Int) ∧ ys_2 = [(1 : UInt8), (2 : UInt8), (3 : UInt8), (4 : UInt8)]) ∧ e_7 = (0 : Int)) ∧ ys_8 = [(1 : UInt8), (2 : UInt8)]) ∧ us_9 = [(3 : UInt8), (4 : UInt8)]) ∧ e_13 = (0 : Int)) ∧ ys_14 = [(1 : UInt8), (2 : UInt8), (252 : UInt8)]) ∧ e_19 = (0 : Int)) ∧ ys_20 = [(1 : UInt8)]) ∧ n105 = (0 : Int)) ∧ ys_63[(1 : Nat)]?.getD (dflt (6 : Nat)) = [(1 : UInt8)]
      refine ⟨by first | omega | (dsimp only; omega), ?_⟩ -- (0 : Int) ≤ (2 : Int)
      exact by omega -- (2 : Int) < (↑(List.take (3 : Nat) (List.drop (0 : Nat) [List.take (1 : Nat) (List.drop (0 : Nat) [UInt8.ofNat (Int.toNat (1 : Int))]), List.take (1 : Nat) (List.drop (0 : Nat) [UInt8.ofNat (Int.toNat (2 : Int))]), List.take (1 : Nat) (List.drop (0 : Nat) [UInt8.ofNat (Int.toNat (3 : Int))])])).length : Int)
    refine ⟨?_, ?_⟩
    · -- left
      intro q105 -- (bif bif bif bif true then bif bif bif bif bif bif bif bif e_1 == (0 : Int) then { data := ys_2.toArray : ByteArray }.data.toList == { data := #[(1 : UInt8), (2 : UInt8), (3 : UInt8), (4 : UInt8)] : ByteArray }.data.toList else false then e_7 == (0 : Int) else false then { data := ys_8.toArray : ByteArray }.data.toList == { data := #[(1 : UInt8), (2 : UInt8)] : ByteArray }.data.toList else false then { data := us_9.toArray : ByteArray }.data.toList == { data := #[(3 : UInt8), (4 : UInt8)] : ByteArray }.data.toList else false then e_13 == (0 : Int) else false then { data := ys_14.toArray : ByteArray }.data.toList == { data := #[(1 : UInt8), (2 : UInt8), (252 : UInt8)] : ByteArray }.data.toList else false then e_19 == (0 : Int) else false then { data := ys_20.toArray : ByteArray }.data.toList == { data := #[(1 : UInt8)] : ByteArray }.data.toList else false else false then (0 : Int) == (0 : Int) else false then n105 == (0 : Int) else false then { data := (ys_63.getD ((0 : Nat) + Int.toNat (1 : Int)) (dflt (6 : Nat))).toArray : ByteArray }.data.toList == { data := #[(1 : UInt8)] : ByteArray }.data.toList else false) = true
      simp at q105 -- (((((((((e_1 = (0 : Int) ∧ ys_2 = [(1 : UInt8), (2 : UInt8), (3 : UInt8), (4 : UInt8)]) ∧ e_7 = (0 : Int)) ∧ ys_8 = [(1 : UInt8), (2 : UInt8)]) ∧ us_9 = [(3 : UInt8), (4 : UInt8)]) ∧ e_13 = (0 : Int)) ∧ ys_14 = [(1 : UInt8), (2 : UInt8), (252 : UInt8)]) ∧ e_19 = (0 : Int)) ∧ ys_20 = [(1 : UInt8)]) ∧ n105 = (0 : Int)) ∧ ys_63[(1 : Nat)]?.getD (dflt (6 : Nat)) = [(1 : UInt8)]
      -- (0 : Nat) + Int.toNat (2 : Int) < ys_63.length
      exact absurd q89 (by decide +kernel)
    -- k (AV.bool (bif bif bif bif bif bif bif bif bif true then bif bif bif bif bif bif bif bif e_1 == (0 : Int) then { data := ys_2.toArray : ByteArray }.data.toList == { data := #[(1 : UInt8), (2 : UInt8), (3 : UInt8), (4 : UInt8)] : ByteArray }.data.toList else false then e_7 == (0 : Int) else false then { data := ys_8.toArray : ByteArray }.data.toList == { data := #[(1 : UInt8), (2 : UInt8)] : ByteArray }.data.toList else false then { data := us_9.toArray : ByteArray }.data.toList == { data := #[(3 : UInt8), (4 : UInt8)] : ByteArray }.data.toList else false then e_13 == (0 : Int) else false then { data := ys_14.toArray : ByteArray }.data.toList == { data := #[(1 : UInt8), (2 : UInt8), (252 : UInt8)] : ByteArray }.data.toList else false then e_19 == (0 : Int) else false then { data := ys_20.toArray : ByteArray }.data.toList == { data := #[(1 : UInt8)] : ByteArray }.data.toList else false else false then (0 : Int) == (0 : Int) else false then n105 == (0 : Int) else false then { data := (ys_63.getD ((0 : Nat) + Int.toNat (1 : Int)) (dflt (6 : Nat))).toArray : ByteArray }.data.toList == { data := #[(1 : UInt8)] : ByteArray }.data.toList else false then { data := (ys_63.getD ((0 : Nat) + Int.toNat (2 : Int)) (dflt (6 : Nat))).toArray : ByteArray }.data.toList == { data := #[(3 : UInt8)] : ByteArray }.data.toList else false then e_65 == (2 : Int) else false then e_71 == (2 : Int) else false then (0 : Int) == (4 : Int) else false then e_96 == (3 : Int) else false)) [] []
    exact absurd q89 (by decide +kernel)

theorem wireNames_ok : Holds Try.prog 4 trueS := by
  refine fn_sound (env := mkEnv T6) (tab_ok T6_ok) Try.func4 Try.call4 fun args k h => ?_
  match args, h with
  | [], h => exact ⟨by kernel_rfl, fun _ _ => none, fun _ _ => none, .cast (by kernel_rfl) (wireNames_vc  k h)⟩
end Go.Proofs.Ytkcnpemaocdnkaa

namespace Go.Proofs.Ytkcnpemaocdnkaa
open Go.ChangeShapes Go.WideShapes Go.ChangeAt Go.RowKit Go.Eng
set_option linter.unusedVariables false

theorem ownN : ownKnob Try.prog.godebug = none := by kernel_rfl

set_option maxRecDepth 100000 in
theorem wireNamesLifted (os : Os) (started : os.Started) (H : Type) (enc : TypeId × Value → H) :
    ReturnsInHanded {} Try.checked os 4 .any (Rows.wireNamesSpec.pre6 enc Try.prog Try.f4 Rows.wireNamesRow.domain false) (Rows.wireNamesSpec.post enc Try.prog Try.f4 false true false false) := by
  refine returnsInHanded_of_change (C := Try.checked) ownN started (by kernel_rfl) Try.func4
    (ChangeSpec.witness6 (enc := enc) (C := Try.checked) false ⟨#[], #[], []⟩ 8 (by kernel_rfl) (by kernel_rfl) (by kernel_rfl) (by kernel_rfl)) ?_
  intro W base args ds gs before hval0 hW hcnd _
  have hW' := hW
  obtain ⟨p, q, hA0, hV, rfl, hfz, hnd⟩ := hW
  have hA : DataW.TrodAll enc Try.prog W 0 (fun _ => true) true Try.f4.params.toList args.toList ds p := hA0
  rw [Try.params4] at hA
  obtain ⟨hargs, rfl, rfl⟩ := trodAll_nil hA
  obtain rfl : args = #[] := by cases args; simp_all
  obtain ⟨rfl, rfl⟩ := trodVars_none hV
  clear hA0 hval0
  refine (calls_of_holds wireNames_ok Try.call4 (w := W) (vals := #[]) (args := []) rfl (fun j v hj => by simp at hj) rfl).mono fun e W' ⟨he, bel⟩ => ?_
  subst he
  exact ⟨_, rfl, _, _, _, [], _, [], hW', trodAll_mk1 (shut_bool Try.underlying4 _), trodAll_mk0, rfl, bel.frame _, fun h => by cases h⟩

theorem wireNames_said : Rows.WireNamesSaid :=
  OpenClaim.holds_of_wide 4 Try.f4 rfl rfl rfl rfl rfl rfl rfl ⟨rfl, rfl, rfl, rfl, rfl⟩ rfl rfl rfl rfl rfl (by kernel_rfl) Try.func4 (by kernel_rfl)
    (of_decide_eq_true (by kernel_rfl)) (by unfold Func.isWrapper; first | (rw [if_pos (by decide +kernel)]; kernel_rfl) | (rw [if_neg (by decide +kernel)]; exact ⟨rfl, rfl⟩))
    (fun os started H enc _ => wireNamesLifted os started H enc)
#print axioms wireNames_said
end Go.Proofs.Ytkcnpemaocdnkaa


