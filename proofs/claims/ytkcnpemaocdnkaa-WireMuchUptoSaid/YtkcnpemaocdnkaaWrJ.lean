/- WireKeeps and WireMuch, in the form for arguments of bounded bulk (..UptoSaid): a link that only goes and holds loses nothing; at most twice as much comes out as went in, and nothing of a link that loses all. Any ticks, doings and places within the row's bound. -/
import Derived.Test.YtkcnpemaocdnkaaWrI
import Derived.Test.YtkcnpemaocdnkaaRows
namespace Go.Proofs.Ytkcnpemaocdnkaa
open Go Go.Eng Go.Wr Go.Proofs
set_option linter.unusedVariables false
set_option maxHeartbeats 2000000 in
theorem wireKeeps_vc (l : List (List UInt8)) (hold : List Bool) (h01 : l.length ≤ (1048576 : Nat)) (h02 : tot l ≤ (1048576 : Nat)) (h03 : hold.length ≤ (1048576 : Nat)) (k : AV → List (Option Blk) → List Blk → Prop) (hk : k (AV.bool true) [] []) :
  ∀ (b_1 : Bool),
  ((b_1 = true) →
   (l.length ≤ (200 : Nat)) ∧
   (tot l ≤ (16384 : Nat))) →
  ∀ (n3 : Int),
  (n3 = (↑l.length : Int)) →
  br (bif !b_1 then true else decide (n3 < (1 : Int)))
   ((k (AV.bool true) [] []))
   (∀ (n5 : Int),
    (n5 = (↑l.length : Int)) →
    ((-9223372036854775808 : Int) ≤ n5 ∧ n5 ≤ (9223372036854775807 : Int)) →
    ∀ (n8 : Int),
    (n8 = (↑l.length : Int)) →
    ((-9223372036854775808 : Int) ≤ n8 ∧ n8 ≤ (9223372036854775807 : Int)) →
    (
     (
      ((0 : Int) ≤ n5) ∧
      (n5 ≤ n5) ∧
      (n5 * (↑(1 : Nat) : Int) ≤ (140737488355328 : Int))) ∧
     (
      ((0 : Int) ≤ n8) ∧
      (n8 ≤ n8) ∧
      (n8 * (↑(8 : Nat) : Int) ≤ (140737488355328 : Int))) ∧
     (
      ∃ (v : Int × List UInt8),
      (l = l) ∧
      (hold = hold) ∧
      (true = true) ∧
      ((0 : Nat) = (0 : Nat)) ∧
      (n5.toNat = l.length) ∧
      ((0 : Nat) = (0 : Nat)) ∧
      (n8.toNat = l.length) ∧
      ((0 : Int) = v.fst) ∧
      (List.replicate n5.toNat (UInt8.ofNat (Int.toNat (0 : Int))) = v.snd) ∧
      (List.replicate n8.toNat (0 : Int) = List.replicate l.length (0 : Int)) ∧
      (
       ((0 : Int) ≤ v.fst) ∧
       (v.fst + (1 : Int) ≤ (↑l.length : Int))) ∧
      (v.snd.length = l.length) ∧
      (
       ∀ (j_11 : Nat),
       ((v.snd.getD j_11 (0 : UInt8)).toNat = (0 : Nat) ∨ (v.snd.getD j_11 (0 : UInt8)).toNat = (3 : Nat))) ∧
      (
       ∀ (j_12 : Nat),
       (v.fst.toNat ≤ j_12) →
       ((v.snd.getD j_12 (0 : UInt8)).toNat = (0 : Nat))) ∧
      (l.length ≤ (200 : Nat)) ∧
      (tot l ≤ (16384 : Nat))) ∧
     ∀ (v_14 : Int × List UInt8),
     (((0 : Int) ≤ v_14.fst ∧ v_14.fst + (1 : Int) ≤ (↑l.length : Int)) ∧ v_14.snd.length = l.length ∧ (∀ (j : Nat), (v_14.snd.getD j (0 : UInt8)).toNat = (0 : Nat) ∨ (v_14.snd.getD j (0 : UInt8)).toNat = (3 : Nat)) ∧ (∀ (j : Nat), v_14.fst.toNat ≤ j → (v_14.snd.getD j (0 : UInt8)).toNat = (0 : Nat)) ∧ l.length ≤ (200 : Nat) ∧ tot l ≤ (16384 : Nat)) →
     ∀ (n16 : Int),
     (n16 = IntKind.i64.wrap (v_14.fst + (1 : Int))) →
     ((-9223372036854775808 : Int) ≤ n16 ∧ n16 ≤ (9223372036854775807 : Int)) →
     ∀ (n19 : Int),
     (n19 = (↑l.length : Int)) →
     ((-9223372036854775808 : Int) ≤ n19 ∧ n19 ≤ (9223372036854775807 : Int)) →
     br (decide (n16 < n19))
      (∀ (n22 : Int),
       (n22 = (↑hold.length : Int)) →
       ((-9223372036854775808 : Int) ≤ n22 ∧ n22 ≤ (9223372036854775807 : Int)) →
       (
        (decide (v_14.fst < n22) = true) →
        ((0 : Int) ≤ v_14.fst) ∧
        (v_14.fst < (↑hold.length : Int))) ∧
       br (bif decide (v_14.fst < n22) then hold.getD v_14.fst.toNat false else false)
        (((0 : Int) ≤ v_14.fst) ∧
         (v_14.fst < (↑l.length : Int)) ∧
         ((0 : Nat) + v_14.fst.toNat < v_14.snd.length) ∧
         ∀ (z26 : List UInt8),
         (z26 = v_14.snd.set ((0 : Nat) + v_14.fst.toNat) (UInt8.ofNat (Int.toNat (3 : Int)))) →
         ∀ (n28 : Int),
         (n28 = IntKind.i64.wrap (v_14.fst + (1 : Int))) →
         ((-9223372036854775808 : Int) ≤ n28 ∧ n28 ≤ (9223372036854775807 : Int)) →
         ∃ (v' : Int × List UInt8),
         (l = l) ∧
         (hold = hold) ∧
         (true = true) ∧
         ((0 : Nat) = (0 : Nat)) ∧
         (l.length = l.length) ∧
         ((0 : Nat) = (0 : Nat)) ∧
         (l.length = l.length) ∧
         (n28 = v'.fst) ∧
         (z26 = v'.snd) ∧
         (List.replicate l.length (0 : Int) = List.replicate l.length (0 : Int)) ∧
         (
          (
           ((0 : Int) ≤ v'.fst) ∧
           (v'.fst + (1 : Int) ≤ (↑l.length : Int))) ∧
          (v'.snd.length = l.length) ∧
          (
           ∀ (j_31 : Nat),
           ((v'.snd.getD j_31 (0 : UInt8)).toNat = (0 : Nat) ∨ (v'.snd.getD j_31 (0 : UInt8)).toNat = (3 : Nat))) ∧
          (
           ∀ (j_32 : Nat),
           (v'.fst.toNat ≤ j_32) →
           ((v'.snd.getD j_32 (0 : UInt8)).toNat = (0 : Nat))) ∧
          (l.length ≤ (200 : Nat)) ∧
          (tot l ≤ (16384 : Nat))) ∧
         (((↑l.length : Int) - v'.fst).toNat < ((↑l.length : Int) - v_14.fst).toNat))
        (∀ (n34 : Int),
         (n34 = IntKind.i64.wrap (v_14.fst + (1 : Int))) →
         ((-9223372036854775808 : Int) ≤ n34 ∧ n34 ≤ (9223372036854775807 : Int)) →
         ∃ (v' : Int × List UInt8),
         (l = l) ∧
         (hold = hold) ∧
         (true = true) ∧
         ((0 : Nat) = (0 : Nat)) ∧
         (l.length = l.length) ∧
         ((0 : Nat) = (0 : Nat)) ∧
         (l.length = l.length) ∧
         (n34 = v'.fst) ∧
         (v_14.snd = v'.snd) ∧
         (List.replicate l.length (0 : Int) = List.replicate l.length (0 : Int)) ∧
         (
          (
           ((0 : Int) ≤ v'.fst) ∧
           (v'.fst + (1 : Int) ≤ (↑l.length : Int))) ∧
          (v'.snd.length = l.length) ∧
          (
           ∀ (j_37 : Nat),
           ((v'.snd.getD j_37 (0 : UInt8)).toNat = (0 : Nat) ∨ (v'.snd.getD j_37 (0 : UInt8)).toNat = (3 : Nat))) ∧
          (
           ∀ (j_38 : Nat),
           (v'.fst.toNat ≤ j_38) →
           ((v'.snd.getD j_38 (0 : UInt8)).toNat = (0 : Nat))) ∧
          (l.length ≤ (200 : Nat)) ∧
          (tot l ≤ (16384 : Nat))) ∧
         (((↑l.length : Int) - v'.fst).toNat < ((↑l.length : Int) - v_14.fst).toNat)))
      ((
        ∀ (e_40 : Int),
        (e_40 = rE l (List.take l.length (List.drop (0 : Nat) v_14.snd)) (List.take l.length (List.drop (0 : Nat) (List.replicate l.length (0 : Int))))) →
        (e_40 ≠ (0 : Int)) →
        ∀ (n43 : Int),
        (n43 = (0 : Int)) →
        ∀ (n45 : Int),
        (n45 = (↑l.length : Int)) →
        br (bif bif true then e_40 == (0 : Int) else false then n43 == n45 else false)
         ((False))
         ((
           (false = false) ∧
           (k (AV.bool false) [] [])) ∧
          (
           (false = false) ∧
           (k (AV.bool false) [] [])) ∧
          (false = false) ∧
          (k (AV.bool false) [] []))) ∧
       ((rE l (List.take l.length (List.drop (0 : Nat) v_14.snd)) (List.take l.length (List.drop (0 : Nat) (List.replicate l.length (0 : Int)))) = (0 : Int)) →
       ∀ (ys_48 : List (List UInt8)),
       (ys_48 = outs l (List.take l.length (List.drop (0 : Nat) v_14.snd)) (List.take l.length (List.drop (0 : Nat) (List.replicate l.length (0 : Int)))) l.length) →
       ∀ (n50 : Int),
       (n50 = (↑l.length : Int)) →
       ∀ (n52 : Int),
       (n52 = (↑l.length : Int)) →
       br (bif bif true then (0 : Int) == (0 : Int) else false then n50 == n52 else false)
        ((tot (List.take l.length (List.drop (0 : Nat) ys_48)) ≤ (3000000 : Nat)) ∧
         ∀ (ys_54 : List UInt8),
         ∀ (n_55 : Nat),
         (ys_54 = (List.take l.length (List.drop (0 : Nat) ys_48)).flatten) →
         (ys_54.length = n_55) →
         (tot l ≤ (3000000 : Nat)) ∧
         ∀ (ys_58 : List UInt8),
         ∀ (n_59 : Nat),
         (ys_58 = l.flatten) →
         (ys_58.length = n_59) →
         (k (AV.bool (bif true then { data := (List.take n_55 (List.drop (0 : Nat) ys_54)).toArray : ByteArray }.data.toList == { data := (List.take n_59 (List.drop (0 : Nat) ys_58)).toArray : ByteArray }.data.toList else false)) [] []))
        ((
          (false = false) ∧
          (k (AV.bool false) [] [])) ∧
         (
          (false = false) ∧
          (k (AV.bool false) [] [])) ∧
         (false = false) ∧
         (k (AV.bool false) [] []))))) ∧
    (
     ((0 : Int) ≤ n8) ∧
     (n8 ≤ n8) ∧
     (n8 * (↑(8 : Nat) : Int) ≤ (140737488355328 : Int))) ∧
    (
     ((0 : Int) ≤ n5) ∧
     (n5 ≤ n5) ∧
     (n5 * (↑(1 : Nat) : Int) ≤ (140737488355328 : Int))) ∧
    (
     ∃ (v : Int × List UInt8),
     (l = l) ∧
     (hold = hold) ∧
     (true = true) ∧
     ((0 : Nat) = (0 : Nat)) ∧
     (n5.toNat = l.length) ∧
     ((0 : Nat) = (0 : Nat)) ∧
     (n8.toNat = l.length) ∧
     ((0 : Int) = v.fst) ∧
     (List.replicate n5.toNat (UInt8.ofNat (Int.toNat (0 : Int))) = v.snd) ∧
     (List.replicate n8.toNat (0 : Int) = List.replicate l.length (0 : Int)) ∧
     (
      ((0 : Int) ≤ v.fst) ∧
      (v.fst + (1 : Int) ≤ (↑l.length : Int))) ∧
     (v.snd.length = l.length) ∧
     (
      ∀ (j_62 : Nat),
      ((v.snd.getD j_62 (0 : UInt8)).toNat = (0 : Nat) ∨ (v.snd.getD j_62 (0 : UInt8)).toNat = (3 : Nat))) ∧
     (
      ∀ (j_63 : Nat),
      (v.fst.toNat ≤ j_63) →
      ((v.snd.getD j_63 (0 : UInt8)).toNat = (0 : Nat))) ∧
     (l.length ≤ (200 : Nat)) ∧
     (tot l ≤ (16384 : Nat))) ∧
    ∀ (v_65 : Int × List UInt8),
    (((0 : Int) ≤ v_65.fst ∧ v_65.fst + (1 : Int) ≤ (↑l.length : Int)) ∧ v_65.snd.length = l.length ∧ (∀ (j : Nat), (v_65.snd.getD j (0 : UInt8)).toNat = (0 : Nat) ∨ (v_65.snd.getD j (0 : UInt8)).toNat = (3 : Nat)) ∧ (∀ (j : Nat), v_65.fst.toNat ≤ j → (v_65.snd.getD j (0 : UInt8)).toNat = (0 : Nat)) ∧ l.length ≤ (200 : Nat) ∧ tot l ≤ (16384 : Nat)) →
    ∀ (n67 : Int),
    (n67 = IntKind.i64.wrap (v_65.fst + (1 : Int))) →
    ((-9223372036854775808 : Int) ≤ n67 ∧ n67 ≤ (9223372036854775807 : Int)) →
    ∀ (n70 : Int),
    (n70 = (↑l.length : Int)) →
    ((-9223372036854775808 : Int) ≤ n70 ∧ n70 ≤ (9223372036854775807 : Int)) →
    br (decide (n67 < n70))
     (∀ (n73 : Int),
      (n73 = (↑hold.length : Int)) →
      ((-9223372036854775808 : Int) ≤ n73 ∧ n73 ≤ (9223372036854775807 : Int)) →
      (
       (decide (v_65.fst < n73) = true) →
       ((0 : Int) ≤ v_65.fst) ∧
       (v_65.fst < (↑hold.length : Int))) ∧
      br (bif decide (v_65.fst < n73) then hold.getD v_65.fst.toNat false else false)
       (((0 : Int) ≤ v_65.fst) ∧
        (v_65.fst < (↑l.length : Int)) ∧
        ((0 : Nat) + v_65.fst.toNat < v_65.snd.length) ∧
        ∀ (z77 : List UInt8),
        (z77 = v_65.snd.set ((0 : Nat) + v_65.fst.toNat) (UInt8.ofNat (Int.toNat (3 : Int)))) →
        ∀ (n79 : Int),
        (n79 = IntKind.i64.wrap (v_65.fst + (1 : Int))) →
        ((-9223372036854775808 : Int) ≤ n79 ∧ n79 ≤ (9223372036854775807 : Int)) →
        ∃ (v' : Int × List UInt8),
        (l = l) ∧
        (hold = hold) ∧
        (true = true) ∧
        ((0 : Nat) = (0 : Nat)) ∧
        (l.length = l.length) ∧
        ((0 : Nat) = (0 : Nat)) ∧
        (l.length = l.length) ∧
        (n79 = v'.fst) ∧
        (z77 = v'.snd) ∧
        (List.replicate l.length (0 : Int) = List.replicate l.length (0 : Int)) ∧
        (
         (
          ((0 : Int) ≤ v'.fst) ∧
          (v'.fst + (1 : Int) ≤ (↑l.length : Int))) ∧
         (v'.snd.length = l.length) ∧
         (
          ∀ (j_82 : Nat),
          ((v'.snd.getD j_82 (0 : UInt8)).toNat = (0 : Nat) ∨ (v'.snd.getD j_82 (0 : UInt8)).toNat = (3 : Nat))) ∧
         (
          ∀ (j_83 : Nat),
          (v'.fst.toNat ≤ j_83) →
          ((v'.snd.getD j_83 (0 : UInt8)).toNat = (0 : Nat))) ∧
         (l.length ≤ (200 : Nat)) ∧
         (tot l ≤ (16384 : Nat))) ∧
        (((↑l.length : Int) - v'.fst).toNat < ((↑l.length : Int) - v_65.fst).toNat))
       (∀ (n85 : Int),
        (n85 = IntKind.i64.wrap (v_65.fst + (1 : Int))) →
        ((-9223372036854775808 : Int) ≤ n85 ∧ n85 ≤ (9223372036854775807 : Int)) →
        ∃ (v' : Int × List UInt8),
        (l = l) ∧
        (hold = hold) ∧
        (true = true) ∧
        ((0 : Nat) = (0 : Nat)) ∧
        (l.length = l.length) ∧
        ((0 : Nat) = (0 : Nat)) ∧
        (l.length = l.length) ∧
        (n85 = v'.fst) ∧
        (v_65.snd = v'.snd) ∧
        (List.replicate l.length (0 : Int) = List.replicate l.length (0 : Int)) ∧
        (
         (
          ((0 : Int) ≤ v'.fst) ∧
          (v'.fst + (1 : Int) ≤ (↑l.length : Int))) ∧
         (v'.snd.length = l.length) ∧
         (
          ∀ (j_88 : Nat),
          ((v'.snd.getD j_88 (0 : UInt8)).toNat = (0 : Nat) ∨ (v'.snd.getD j_88 (0 : UInt8)).toNat = (3 : Nat))) ∧
         (
          ∀ (j_89 : Nat),
          (v'.fst.toNat ≤ j_89) →
          ((v'.snd.getD j_89 (0 : UInt8)).toNat = (0 : Nat))) ∧
         (l.length ≤ (200 : Nat)) ∧
         (tot l ≤ (16384 : Nat))) ∧
        (((↑l.length : Int) - v'.fst).toNat < ((↑l.length : Int) - v_65.fst).toNat)))
     ((
       ∀ (e_91 : Int),
       (e_91 = rE l (List.take l.length (List.drop (0 : Nat) v_65.snd)) (List.take l.length (List.drop (0 : Nat) (List.replicate l.length (0 : Int))))) →
       (e_91 ≠ (0 : Int)) →
       ∀ (n94 : Int),
       (n94 = (0 : Int)) →
       ∀ (n96 : Int),
       (n96 = (↑l.length : Int)) →
       br (bif bif true then e_91 == (0 : Int) else false then n94 == n96 else false)
        ((False))
        ((
          (false = false) ∧
          (k (AV.bool false) [] [])) ∧
         (
          (false = false) ∧
          (k (AV.bool false) [] [])) ∧
         (false = false) ∧
         (k (AV.bool false) [] []))) ∧
      ((rE l (List.take l.length (List.drop (0 : Nat) v_65.snd)) (List.take l.length (List.drop (0 : Nat) (List.replicate l.length (0 : Int)))) = (0 : Int)) →
      ∀ (ys_99 : List (List UInt8)),
      (ys_99 = outs l (List.take l.length (List.drop (0 : Nat) v_65.snd)) (List.take l.length (List.drop (0 : Nat) (List.replicate l.length (0 : Int)))) l.length) →
      ∀ (n101 : Int),
      (n101 = (↑l.length : Int)) →
      ∀ (n103 : Int),
      (n103 = (↑l.length : Int)) →
      br (bif bif true then (0 : Int) == (0 : Int) else false then n101 == n103 else false)
       ((tot (List.take l.length (List.drop (0 : Nat) ys_99)) ≤ (3000000 : Nat)) ∧
        ∀ (ys_105 : List UInt8),
        ∀ (n_106 : Nat),
        (ys_105 = (List.take l.length (List.drop (0 : Nat) ys_99)).flatten) →
        (ys_105.length = n_106) →
        (tot l ≤ (3000000 : Nat)) ∧
        ∀ (ys_109 : List UInt8),
        ∀ (n_110 : Nat),
        (ys_109 = l.flatten) →
        (ys_109.length = n_110) →
        (k (AV.bool (bif true then { data := (List.take n_106 (List.drop (0 : Nat) ys_105)).toArray : ByteArray }.data.toList == { data := (List.take n_110 (List.drop (0 : Nat) ys_109)).toArray : ByteArray }.data.toList else false)) [] []))
       ((
         (false = false) ∧
         (k (AV.bool false) [] [])) ∧
        (
         (false = false) ∧
         (k (AV.bool false) [] [])) ∧
        (false = false) ∧
        (k (AV.bool false) [] []))))) := by
  intro b_1
  intro h1 -- b_1 = true → l.length ≤ (200 : Nat) ∧ tot l ≤ (16384 : Nat)
  intro n3
  intro q3 -- n3 = (↑l.length : Int)
  refine br_intro (fun c2 => ?_) (fun c2 => ?_) -- bif !b_1 then true else decide (n3 < (1 : Int))
  · -- yes
    simp at c2 -- b_1 = false ∨ n3 < (1 : Int)
    exact by exact hk -- k (AV.bool true) [] []
  · -- no
    simp at c2 -- b_1 = true ∧ (1 : Int) ≤ n3
    intro n5
    intro q5 -- n5 = (↑l.length : Int)
    intro ⟨l5, u5⟩ -- (-9223372036854775808 : Int) ≤ n5 ∧ n5 ≤ (9223372036854775807 : Int)
    intro n8
    intro q8 -- n8 = (↑l.length : Int)
    intro ⟨l8, u8⟩ -- (-9223372036854775808 : Int) ≤ n8 ∧ n8 ≤ (9223372036854775807 : Int)
    refine ⟨?_, ?_⟩
    · -- left
      refine ⟨?_, ?_⟩
      · -- left
        refine ⟨by first | omega | (dsimp only; omega), ?_⟩ -- (0 : Int) ≤ n5
        refine ⟨by first | omega | (dsimp only; omega), ?_⟩ -- n5 ≤ n5
        exact by omega -- n5 * (↑(1 : Nat) : Int) ≤ (140737488355328 : Int)
      refine ⟨?_, ?_⟩
      · -- left
        refine ⟨by first | omega | (dsimp only; omega), ?_⟩ -- (0 : Int) ≤ n8
        refine ⟨by first | omega | (dsimp only; omega), ?_⟩ -- n8 ≤ n8
        exact by omega -- n8 * (↑(8 : Nat) : Int) ≤ (140737488355328 : Int)
      refine ⟨?_, ?_⟩
      · -- left
        refine ⟨((0 : Int), List.replicate n5.toNat (UInt8.ofNat (Int.toNat (0 : Int)))), ?_⟩
        refine ⟨by first | with_reducible rfl | rfl, ?_⟩ -- l = l
        refine ⟨by first | with_reducible rfl | rfl, ?_⟩ -- hold = hold
        refine ⟨by first | with_reducible rfl | rfl, ?_⟩ -- true = true
        refine ⟨by first | with_reducible rfl | rfl, ?_⟩ -- (0 : Nat) = (0 : Nat)
        refine ⟨by show n5.toNat = l.length; omega, ?_⟩ -- n5.toNat = l.length
        refine ⟨by first | with_reducible rfl | rfl, ?_⟩ -- (0 : Nat) = (0 : Nat)
        refine ⟨by show n8.toNat = l.length; omega, ?_⟩ -- n8.toNat = l.length
        refine ⟨by first | with_reducible rfl | rfl, ?_⟩ -- (0 : Int) = (0 : Int)
        refine ⟨by first | with_reducible rfl | rfl, ?_⟩ -- List.replicate n5.toNat (UInt8.ofNat (Int.toNat (0 : Int))) = List.replicate n5.toNat (UInt8.ofNat (Int.toNat (0 : Int)))
        have h3 : List.replicate n8.toNat (0 : Int) = List.replicate l.length (0 : Int) := by
          rw [show n8.toNat = l.length by omega]
        refine ⟨h3, ?_⟩
        refine ⟨by first | omega | (dsimp only; omega), ?_⟩ -- (0 : Int) ≤ (0 : Int) ∧ (0 : Int) + (1 : Int) ≤ (↑l.length : Int)
        have h4 : (List.replicate n5.toNat (UInt8.ofNat (Int.toNat (0 : Int)))).length = l.length := by
          rw [List.length_replicate]; omega
        refine ⟨h4, ?_⟩
        refine ⟨?_, ?_⟩
        · -- left
          intro j_11
          -- ((List.replicate n5.toNat (UInt8.ofNat (Int.toNat (0 : Int)))).getD j_11 (0 : UInt8)).toNat = (0 : Nat) ∨ ((List.replicate n5.toNat (UInt8.ofNat (Int.toNat (0 : Int)))).getD j_11 (0 : UInt8)).toNat = (3 : Nat)
          left; rw [List.getD_eq_getElem?_getD, List.getElem?_replicate]; split <;> rfl
        refine ⟨?_, ?_⟩
        · -- left
          intro j_12
          intro h5 -- Int.toNat (0 : Int) ≤ j_12
          -- ((List.replicate n5.toNat (UInt8.ofNat (Int.toNat (0 : Int)))).getD j_12 (0 : UInt8)).toNat = (0 : Nat)
          rw [List.getD_eq_getElem?_getD, List.getElem?_replicate]; split <;> rfl
        have h6 : l.length ≤ (200 : Nat) := by
          exact (h1 c2.1).1
        refine ⟨h6, ?_⟩
        -- tot l ≤ (16384 : Nat)
        exact (h1 c2.1).2
      intro v_14
      intro h7 -- ((0 : Int) ≤ v_14.fst ∧ v_14.fst + (1 : Int) ≤ (↑l.length : Int)) ∧ v_14.snd.length = l.length ∧ (∀ (j : Nat), (v_14.snd.getD j (0 : UInt8)).toNat = (0 : Nat) ∨ (v_14.snd.getD j (0 : UInt8)).toNat = (3 : Nat)) ∧ (∀ (j : Nat), v_14.fst.toNat ≤ j → (v_14.snd.getD j (0 : UInt8)).toNat = (0 : Nat)) ∧ l.length ≤ (200 : Nat) ∧ tot l ≤ (16384 : Nat)
      intro n16
      intro q16 -- n16 = IntKind.i64.wrap (v_14.fst + (1 : Int))
      rw [IntKind.wrap_i64] at q16
      intro ⟨l16, u16⟩ -- (-9223372036854775808 : Int) ≤ n16 ∧ n16 ≤ (9223372036854775807 : Int)
      intro n19
      intro q19 -- n19 = (↑l.length : Int)
      intro ⟨l19, u19⟩ -- (-9223372036854775808 : Int) ≤ n19 ∧ n19 ≤ (9223372036854775807 : Int)
      refine brd (fun c8 => ?_) (fun c8 => ?_) -- decide (n16 < n19)
      · -- yes
        intro n22
        intro q22 -- n22 = (↑hold.length : Int)
        intro ⟨l22, u22⟩ -- (-9223372036854775808 : Int) ≤ n22 ∧ n22 ≤ (9223372036854775807 : Int)
        refine ⟨?_, ?_⟩
        · -- left
          intro h9 -- decide (v_14.fst < n22) = true
          simp at h9 -- v_14.fst < n22
          refine ⟨by first | omega | (dsimp only; omega), ?_⟩ -- (0 : Int) ≤ v_14.fst
          exact by omega -- v_14.fst < (↑hold.length : Int)
        refine br_intro (fun c10 => ?_) (fun c10 => ?_) -- bif decide (v_14.fst < n22) then hold.getD v_14.fst.toNat false else false
        · -- yes
          simp at c10 -- v_14.fst < n22 ∧ hold[v_14.fst.toNat]?.getD false = true
          refine ⟨by first | omega | (dsimp only; omega), ?_⟩ -- (0 : Int) ≤ v_14.fst
          refine ⟨by first | omega | (dsimp only; omega), ?_⟩ -- v_14.fst < (↑l.length : Int)
          refine ⟨by first | omega | (dsimp only; omega), ?_⟩ -- (0 : Nat) + v_14.fst.toNat < v_14.snd.length
          intro z26
          intro qz26 -- z26 = v_14.snd.set ((0 : Nat) + v_14.fst.toNat) (UInt8.ofNat (Int.toNat (3 : Int)))
          intro n28
          intro q28 -- n28 = IntKind.i64.wrap (v_14.fst + (1 : Int))
          rw [IntKind.wrap_i64] at q28
          intro ⟨l28, u28⟩ -- (-9223372036854775808 : Int) ≤ n28 ∧ n28 ≤ (9223372036854775807 : Int)
          refine ⟨(n28, z26), ?_⟩
          refine ⟨by first | with_reducible rfl | rfl, ?_⟩ -- l = l
          refine ⟨by first | with_reducible rfl | rfl, ?_⟩ -- hold = hold
          refine ⟨by first | with_reducible rfl | rfl, ?_⟩ -- true = true
          refine ⟨by first | with_reducible rfl | rfl, ?_⟩ -- (0 : Nat) = (0 : Nat)
          refine ⟨by first | with_reducible rfl | rfl, ?_⟩ -- l.length = l.length
          refine ⟨by first | with_reducible rfl | rfl, ?_⟩ -- (0 : Nat) = (0 : Nat)
          refine ⟨by first | with_reducible rfl | rfl, ?_⟩ -- l.length = l.length
          refine ⟨by first | with_reducible rfl | rfl, ?_⟩ -- n28 = n28
          refine ⟨by first | with_reducible rfl | rfl, ?_⟩ -- z26 = z26
          refine ⟨by first | with_reducible rfl | rfl, ?_⟩ -- List.replicate l.length (0 : Int) = List.replicate l.length (0 : Int)
          refine ⟨?_, ?_⟩
          · -- left
            refine ⟨by first | omega | (dsimp only; omega), ?_⟩ -- (0 : Int) ≤ n28 ∧ n28 + (1 : Int) ≤ (↑l.length : Int)
            have h11 : z26.length = l.length := by
              rw [qz26, List.length_set]; exact h7.2.1
            refine ⟨h11, ?_⟩
            refine ⟨?_, ?_⟩
            · -- left
              intro j_31
              -- (z26.getD j_31 (0 : UInt8)).toNat = (0 : Nat) ∨ (z26.getD j_31 (0 : UInt8)).toNat = (3 : Nat)
              rw [qz26, List.getD_eq_getElem?_getD, List.getElem?_set]
              split
              · split
                · right; rfl
                · left; rfl
              · rw [← List.getD_eq_getElem?_getD]; exact h7.2.2.1 _
            refine ⟨?_, ?_⟩
            · -- left
              intro j_32
              intro h12 -- n28.toNat ≤ j_32
              -- (z26.getD j_32 (0 : UInt8)).toNat = (0 : Nat)
              rw [qz26, List.getD_eq_getElem?_getD, List.getElem?_set_ne (by omega), ← List.getD_eq_getElem?_getD]; exact h7.2.2.2.1 _ (by omega)
            refine ⟨by show l.length ≤ (200 : Nat); omega, ?_⟩ -- l.length ≤ (200 : Nat)
            exact by show tot l ≤ (16384 : Nat); omega -- tot l ≤ (16384 : Nat)
          exact by show ((↑l.length : Int) - n28).toNat < ((↑l.length : Int) - v_14.fst).toNat; omega -- ((↑l.length : Int) - n28).toNat < ((↑l.length : Int) - v_14.fst).toNat
        · -- no
          simp at c10 -- v_14.fst < n22 → hold[v_14.fst.toNat]?.getD false = false
          intro n34
          intro q34 -- n34 = IntKind.i64.wrap (v_14.fst + (1 : Int))
          rw [IntKind.wrap_i64] at q34
          intro ⟨l34, u34⟩ -- (-9223372036854775808 : Int) ≤ n34 ∧ n34 ≤ (9223372036854775807 : Int)
          refine ⟨(n34, v_14.snd), ?_⟩
          refine ⟨by first | with_reducible rfl | rfl, ?_⟩ -- l = l
          refine ⟨by first | with_reducible rfl | rfl, ?_⟩ -- hold = hold
          refine ⟨by first | with_reducible rfl | rfl, ?_⟩ -- true = true
          refine ⟨by first | with_reducible rfl | rfl, ?_⟩ -- (0 : Nat) = (0 : Nat)
          refine ⟨by first | with_reducible rfl | rfl, ?_⟩ -- l.length = l.length
          refine ⟨by first | with_reducible rfl | rfl, ?_⟩ -- (0 : Nat) = (0 : Nat)
          refine ⟨by first | with_reducible rfl | rfl, ?_⟩ -- l.length = l.length
          refine ⟨by first | with_reducible rfl | rfl, ?_⟩ -- n34 = n34
          refine ⟨by first | with_reducible rfl | rfl, ?_⟩ -- v_14.snd = v_14.snd
          refine ⟨by first | with_reducible rfl | rfl, ?_⟩ -- List.replicate l.length (0 : Int) = List.replicate l.length (0 : Int)
          refine ⟨?_, ?_⟩
          · -- left
            refine ⟨by first | omega | (dsimp only; omega), ?_⟩ -- (0 : Int) ≤ n34 ∧ n34 + (1 : Int) ≤ (↑l.length : Int)
            refine ⟨by show v_14.snd.length = l.length; omega, ?_⟩ -- v_14.snd.length = l.length
            refine ⟨?_, ?_⟩
            · -- left
              intro j_37
              -- (v_14.snd.getD j_37 (0 : UInt8)).toNat = (0 : Nat) ∨ (v_14.snd.getD j_37 (0 : UInt8)).toNat = (3 : Nat)
              exact h7.2.2.1 _
            refine ⟨?_, ?_⟩
            · -- left
              intro j_38
              intro h13 -- n34.toNat ≤ j_38
              -- (v_14.snd.getD j_38 (0 : UInt8)).toNat = (0 : Nat)
              exact h7.2.2.2.1 _ (by omega)
            refine ⟨by show l.length ≤ (200 : Nat); omega, ?_⟩ -- l.length ≤ (200 : Nat)
            exact by show tot l ≤ (16384 : Nat); omega -- tot l ≤ (16384 : Nat)
          exact by show ((↑l.length : Int) - n34).toNat < ((↑l.length : Int) - v_14.fst).toNat; omega -- ((↑l.length : Int) - n34).toNat < ((↑l.length : Int) - v_14.fst).toNat
      · -- no
        refine ⟨?_, ?_⟩
        · -- left
          intro e_40
          intro h14 -- e_40 = rE l (List.take l.length (List.drop (0 : Nat) v_14.snd)) (List.take l.length (List.drop (0 : Nat) (List.replicate l.length (0 : Int))))
          intro h15 -- e_40 ≠ (0 : Int)
          intro n43
          intro q43 -- n43 = (0 : Int)
          intro n45
          intro q45 -- n45 = (↑l.length : Int)
          refine br_intro (fun c16 => ?_) (fun c16 => ?_) -- bif bif true then e_40 == (0 : Int) else false then n43 == n45 else false
          · -- yes
            simp at c16 -- e_40 = (0 : Int) ∧ n43 = n45
            exfalso; omega
          · -- no
            simp at c16 -- e_40 = (0 : Int) → ¬n43 = n45
            refine ⟨?_, ?_⟩
            · -- left
              refine ⟨by with_reducible rfl, ?_⟩ -- false = false
              -- k (AV.bool false) [] []
              exact absurd (h14.trans (keepsE h7.2.1 h7.2.2.1 h7.2.2.2.2.1 h7.2.2.2.2.2)) h15
            refine ⟨?_, ?_⟩
            · -- left
              refine ⟨by with_reducible rfl, ?_⟩ -- false = false
              -- k (AV.bool false) [] []
              exact absurd (h14.trans (keepsE h7.2.1 h7.2.2.1 h7.2.2.2.2.1 h7.2.2.2.2.2)) h15
            refine ⟨by with_reducible rfl, ?_⟩ -- false = false
            -- k (AV.bool false) [] []
            exact absurd (h14.trans (keepsE h7.2.1 h7.2.2.1 h7.2.2.2.2.1 h7.2.2.2.2.2)) h15
        intro q45 -- rE l (List.take l.length (List.drop (0 : Nat) v_14.snd)) (List.take l.length (List.drop (0 : Nat) (List.replicate l.length (0 : Int)))) = (0 : Int)
        intro ys_48
        intro h17 -- ys_48 = outs l (List.take l.length (List.drop (0 : Nat) v_14.snd)) (List.take l.length (List.drop (0 : Nat) (List.replicate l.length (0 : Int)))) l.length
        intro n50
        intro q50 -- n50 = (↑l.length : Int)
        intro n52
        intro q52 -- n52 = (↑l.length : Int)
        refine br_intro (fun c18 => ?_) (fun c18 => ?_) -- bif bif true then (0 : Int) == (0 : Int) else false then n50 == n52 else false
        · -- yes
          simp at c18 -- n50 = n52
          have h19 : tot (List.take l.length (List.drop (0 : Nat) ys_48)) ≤ (3000000 : Nat) := by
            rw [h17]
            have t := totOuts q45
            omega
          refine ⟨h19, ?_⟩
          intro ys_54
          intro n_55
          intro h20 -- ys_54 = (List.take l.length (List.drop (0 : Nat) ys_48)).flatten
          intro h21 -- ys_54.length = n_55
          refine ⟨by first | omega | (dsimp only; omega), ?_⟩ -- tot l ≤ (3000000 : Nat)
          intro ys_58
          intro n_59
          intro h22 -- ys_58 = l.flatten
          intro h23 -- ys_58.length = n_59
          -- k (AV.bool (bif true then { data := (List.take n_55 (List.drop (0 : Nat) ys_54)).toArray : ByteArray }.data.toList == { data := (List.take n_59 (List.drop (0 : Nat) ys_58)).toArray : ByteArray }.data.toList else false)) [] []
          have F : ys_54 = ys_58 := by
            rw [h20, h17, takeOuts, h22]
            rw [takeAll h7.2.1]
            exact keeps_all (fun j _ => h7.2.2.1 j) (by omega) (h7.2.2.2.1 _ (by omega))
          have N : n_55 = n_59 := by rw [← h21, ← h23, F]
          exact k_true hk (by rw [F, N]; simp)
        · -- no
          simp at c18 -- ¬n50 = n52
          exfalso; omega
    refine ⟨?_, ?_⟩
    · -- left
      refine ⟨by first | omega | (dsimp only; omega), ?_⟩ -- (0 : Int) ≤ n8
      refine ⟨by first | omega | (dsimp only; omega), ?_⟩ -- n8 ≤ n8
      exact by omega -- n8 * (↑(8 : Nat) : Int) ≤ (140737488355328 : Int)
    refine ⟨?_, ?_⟩
    · -- left
      refine ⟨by first | omega | (dsimp only; omega), ?_⟩ -- (0 : Int) ≤ n5
      refine ⟨by first | omega | (dsimp only; omega), ?_⟩ -- n5 ≤ n5
      exact by omega -- n5 * (↑(1 : Nat) : Int) ≤ (140737488355328 : Int)
    refine ⟨?_, ?_⟩
    · -- left
      refine ⟨((0 : Int), List.replicate n5.toNat (UInt8.ofNat (Int.toNat (0 : Int)))), ?_⟩
      refine ⟨by first | with_reducible rfl | rfl, ?_⟩ -- l = l
      refine ⟨by first | with_reducible rfl | rfl, ?_⟩ -- hold = hold
      refine ⟨by first | with_reducible rfl | rfl, ?_⟩ -- true = true
      refine ⟨by first | with_reducible rfl | rfl, ?_⟩ -- (0 : Nat) = (0 : Nat)
      refine ⟨by show n5.toNat = l.length; omega, ?_⟩ -- n5.toNat = l.length
      refine ⟨by first | with_reducible rfl | rfl, ?_⟩ -- (0 : Nat) = (0 : Nat)
      refine ⟨by show n8.toNat = l.length; omega, ?_⟩ -- n8.toNat = l.length
      refine ⟨by first | with_reducible rfl | rfl, ?_⟩ -- (0 : Int) = (0 : Int)
      refine ⟨by first | with_reducible rfl | rfl, ?_⟩ -- List.replicate n5.toNat (UInt8.ofNat (Int.toNat (0 : Int))) = List.replicate n5.toNat (UInt8.ofNat (Int.toNat (0 : Int)))
      have h24 : List.replicate n8.toNat (0 : Int) = List.replicate l.length (0 : Int) := by
        rw [show n8.toNat = l.length by omega]
      refine ⟨h24, ?_⟩
      refine ⟨by first | omega | (dsimp only; omega), ?_⟩ -- (0 : Int) ≤ (0 : Int) ∧ (0 : Int) + (1 : Int) ≤ (↑l.length : Int)
      have h25 : (List.replicate n5.toNat (UInt8.ofNat (Int.toNat (0 : Int)))).length = l.length := by
        rw [List.length_replicate]; omega
      refine ⟨h25, ?_⟩
      refine ⟨?_, ?_⟩
      · -- left
        intro j_62
        -- ((List.replicate n5.toNat (UInt8.ofNat (Int.toNat (0 : Int)))).getD j_62 (0 : UInt8)).toNat = (0 : Nat) ∨ ((List.replicate n5.toNat (UInt8.ofNat (Int.toNat (0 : Int)))).getD j_62 (0 : UInt8)).toNat = (3 : Nat)
        left; rw [List.getD_eq_getElem?_getD, List.getElem?_replicate]; split <;> rfl
      refine ⟨?_, ?_⟩
      · -- left
        intro j_63
        intro h26 -- Int.toNat (0 : Int) ≤ j_63
        -- ((List.replicate n5.toNat (UInt8.ofNat (Int.toNat (0 : Int)))).getD j_63 (0 : UInt8)).toNat = (0 : Nat)
        rw [List.getD_eq_getElem?_getD, List.getElem?_replicate]; split <;> rfl
      have h27 : l.length ≤ (200 : Nat) := by
        exact (h1 c2.1).1
      refine ⟨h27, ?_⟩
      -- tot l ≤ (16384 : Nat)
      exact (h1 c2.1).2
    intro v_65
    intro h28 -- ((0 : Int) ≤ v_65.fst ∧ v_65.fst + (1 : Int) ≤ (↑l.length : Int)) ∧ v_65.snd.length = l.length ∧ (∀ (j : Nat), (v_65.snd.getD j (0 : UInt8)).toNat = (0 : Nat) ∨ (v_65.snd.getD j (0 : UInt8)).toNat = (3 : Nat)) ∧ (∀ (j : Nat), v_65.fst.toNat ≤ j → (v_65.snd.getD j (0 : UInt8)).toNat = (0 : Nat)) ∧ l.length ≤ (200 : Nat) ∧ tot l ≤ (16384 : Nat)
    intro n67
    intro q67 -- n67 = IntKind.i64.wrap (v_65.fst + (1 : Int))
    rw [IntKind.wrap_i64] at q67
    intro ⟨l67, u67⟩ -- (-9223372036854775808 : Int) ≤ n67 ∧ n67 ≤ (9223372036854775807 : Int)
    intro n70
    intro q70 -- n70 = (↑l.length : Int)
    intro ⟨l70, u70⟩ -- (-9223372036854775808 : Int) ≤ n70 ∧ n70 ≤ (9223372036854775807 : Int)
    refine brd (fun c29 => ?_) (fun c29 => ?_) -- decide (n67 < n70)
    · -- yes
      intro n73
      intro q73 -- n73 = (↑hold.length : Int)
      intro ⟨l73, u73⟩ -- (-9223372036854775808 : Int) ≤ n73 ∧ n73 ≤ (9223372036854775807 : Int)
      refine ⟨?_, ?_⟩
      · -- left
        intro h30 -- decide (v_65.fst < n73) = true
        simp at h30 -- v_65.fst < n73
        refine ⟨by first | omega | (dsimp only; omega), ?_⟩ -- (0 : Int) ≤ v_65.fst
        exact by omega -- v_65.fst < (↑hold.length : Int)
      refine br_intro (fun c31 => ?_) (fun c31 => ?_) -- bif decide (v_65.fst < n73) then hold.getD v_65.fst.toNat false else false
      · -- yes
        simp at c31 -- v_65.fst < n73 ∧ hold[v_65.fst.toNat]?.getD false = true
        refine ⟨by first | omega | (dsimp only; omega), ?_⟩ -- (0 : Int) ≤ v_65.fst
        refine ⟨by first | omega | (dsimp only; omega), ?_⟩ -- v_65.fst < (↑l.length : Int)
        refine ⟨by first | omega | (dsimp only; omega), ?_⟩ -- (0 : Nat) + v_65.fst.toNat < v_65.snd.length
        intro z77
        intro qz77 -- z77 = v_65.snd.set ((0 : Nat) + v_65.fst.toNat) (UInt8.ofNat (Int.toNat (3 : Int)))
        intro n79
        intro q79 -- n79 = IntKind.i64.wrap (v_65.fst + (1 : Int))
        rw [IntKind.wrap_i64] at q79
        intro ⟨l79, u79⟩ -- (-9223372036854775808 : Int) ≤ n79 ∧ n79 ≤ (9223372036854775807 : Int)
        refine ⟨(n79, z77), ?_⟩
        refine ⟨by first | with_reducible rfl | rfl, ?_⟩ -- l = l
        refine ⟨by first | with_reducible rfl | rfl, ?_⟩ -- hold = hold
        refine ⟨by first | with_reducible rfl | rfl, ?_⟩ -- true = true
        refine ⟨by first | with_reducible rfl | rfl, ?_⟩ -- (0 : Nat) = (0 : Nat)
        refine ⟨by first | with_reducible rfl | rfl, ?_⟩ -- l.length = l.length
        refine ⟨by first | with_reducible rfl | rfl, ?_⟩ -- (0 : Nat) = (0 : Nat)
        refine ⟨by first | with_reducible rfl | rfl, ?_⟩ -- l.length = l.length
        refine ⟨by first | with_reducible rfl | rfl, ?_⟩ -- n79 = n79
        refine ⟨by first | with_reducible rfl | rfl, ?_⟩ -- z77 = z77
        refine ⟨by first | with_reducible rfl | rfl, ?_⟩ -- List.replicate l.length (0 : Int) = List.replicate l.length (0 : Int)
        refine ⟨?_, ?_⟩
        · -- left
          refine ⟨by first | omega | (dsimp only; omega), ?_⟩ -- (0 : Int) ≤ n79 ∧ n79 + (1 : Int) ≤ (↑l.length : Int)
          have h32 : z77.length = l.length := by
            rw [qz77, List.length_set]; exact h28.2.1
          refine ⟨h32, ?_⟩
          refine ⟨?_, ?_⟩
          · -- left
            intro j_82
            -- (z77.getD j_82 (0 : UInt8)).toNat = (0 : Nat) ∨ (z77.getD j_82 (0 : UInt8)).toNat = (3 : Nat)
            rw [qz77, List.getD_eq_getElem?_getD, List.getElem?_set]
            split
            · split
              · right; rfl
              · left; rfl
            · rw [← List.getD_eq_getElem?_getD]; exact h28.2.2.1 _
          refine ⟨?_, ?_⟩
          · -- left
            intro j_83
            intro h33 -- n79.toNat ≤ j_83
            -- (z77.getD j_83 (0 : UInt8)).toNat = (0 : Nat)
            rw [qz77, List.getD_eq_getElem?_getD, List.getElem?_set_ne (by omega), ← List.getD_eq_getElem?_getD]; exact h28.2.2.2.1 _ (by omega)
          refine ⟨by show l.length ≤ (200 : Nat); omega, ?_⟩ -- l.length ≤ (200 : Nat)
          exact by show tot l ≤ (16384 : Nat); omega -- tot l ≤ (16384 : Nat)
        exact by show ((↑l.length : Int) - n79).toNat < ((↑l.length : Int) - v_65.fst).toNat; omega -- ((↑l.length : Int) - n79).toNat < ((↑l.length : Int) - v_65.fst).toNat
      · -- no
        simp at c31 -- v_65.fst < n73 → hold[v_65.fst.toNat]?.getD false = false
        intro n85
        intro q85 -- n85 = IntKind.i64.wrap (v_65.fst + (1 : Int))
        rw [IntKind.wrap_i64] at q85
        intro ⟨l85, u85⟩ -- (-9223372036854775808 : Int) ≤ n85 ∧ n85 ≤ (9223372036854775807 : Int)
        refine ⟨(n85, v_65.snd), ?_⟩
        refine ⟨by first | with_reducible rfl | rfl, ?_⟩ -- l = l
        refine ⟨by first | with_reducible rfl | rfl, ?_⟩ -- hold = hold
        refine ⟨by first | with_reducible rfl | rfl, ?_⟩ -- true = true
        refine ⟨by first | with_reducible rfl | rfl, ?_⟩ -- (0 : Nat) = (0 : Nat)
        refine ⟨by first | with_reducible rfl | rfl, ?_⟩ -- l.length = l.length
        refine ⟨by first | with_reducible rfl | rfl, ?_⟩ -- (0 : Nat) = (0 : Nat)
        refine ⟨by first | with_reducible rfl | rfl, ?_⟩ -- l.length = l.length
        refine ⟨by first | with_reducible rfl | rfl, ?_⟩ -- n85 = n85
        refine ⟨by first | with_reducible rfl | rfl, ?_⟩ -- v_65.snd = v_65.snd
        refine ⟨by first | with_reducible rfl | rfl, ?_⟩ -- List.replicate l.length (0 : Int) = List.replicate l.length (0 : Int)
        refine ⟨?_, ?_⟩
        · -- left
          refine ⟨by first | omega | (dsimp only; omega), ?_⟩ -- (0 : Int) ≤ n85 ∧ n85 + (1 : Int) ≤ (↑l.length : Int)
          refine ⟨by show v_65.snd.length = l.length; omega, ?_⟩ -- v_65.snd.length = l.length
          refine ⟨?_, ?_⟩
          · -- left
            intro j_88
            -- (v_65.snd.getD j_88 (0 : UInt8)).toNat = (0 : Nat) ∨ (v_65.snd.getD j_88 (0 : UInt8)).toNat = (3 : Nat)
            exact h28.2.2.1 _
          refine ⟨?_, ?_⟩
          · -- left
            intro j_89
            intro h34 -- n85.toNat ≤ j_89
            -- (v_65.snd.getD j_89 (0 : UInt8)).toNat = (0 : Nat)
            exact h28.2.2.2.1 _ (by omega)
          refine ⟨by show l.length ≤ (200 : Nat); omega, ?_⟩ -- l.length ≤ (200 : Nat)
          exact by show tot l ≤ (16384 : Nat); omega -- tot l ≤ (16384 : Nat)
        exact by show ((↑l.length : Int) - n85).toNat < ((↑l.length : Int) - v_65.fst).toNat; omega -- ((↑l.length : Int) - n85).toNat < ((↑l.length : Int) - v_65.fst).toNat
    · -- no
      refine ⟨?_, ?_⟩
      · -- left
        intro e_91
        intro h35 -- e_91 = rE l (List.take l.length (List.drop (0 : Nat) v_65.snd)) (List.take l.length (List.drop (0 : Nat) (List.replicate l.length (0 : Int))))
        intro h36 -- e_91 ≠ (0 : Int)
        intro n94
        intro q94 -- n94 = (0 : Int)
        intro n96
        intro q96 -- n96 = (↑l.length : Int)
        refine br_intro (fun c37 => ?_) (fun c37 => ?_) -- bif bif true then e_91 == (0 : Int) else false then n94 == n96 else false
        · -- yes
          simp at c37 -- e_91 = (0 : Int) ∧ n94 = n96
          exfalso; omega
        · -- no
          simp at c37 -- e_91 = (0 : Int) → ¬n94 = n96
          refine ⟨?_, ?_⟩
          · -- left
            refine ⟨by with_reducible rfl, ?_⟩ -- false = false
            -- k (AV.bool false) [] []
            exact absurd (h35.trans (keepsE h28.2.1 h28.2.2.1 h28.2.2.2.2.1 h28.2.2.2.2.2)) h36
          refine ⟨?_, ?_⟩
          · -- left
            refine ⟨by with_reducible rfl, ?_⟩ -- false = false
            -- k (AV.bool false) [] []
            exact absurd (h35.trans (keepsE h28.2.1 h28.2.2.1 h28.2.2.2.2.1 h28.2.2.2.2.2)) h36
          refine ⟨by with_reducible rfl, ?_⟩ -- false = false
          -- k (AV.bool false) [] []
          exact absurd (h35.trans (keepsE h28.2.1 h28.2.2.1 h28.2.2.2.2.1 h28.2.2.2.2.2)) h36
      intro q96 -- rE l (List.take l.length (List.drop (0 : Nat) v_65.snd)) (List.take l.length (List.drop (0 : Nat) (List.replicate l.length (0 : Int)))) = (0 : Int)
      intro ys_99
      intro h38 -- ys_99 = outs l (List.take l.length (List.drop (0 : Nat) v_65.snd)) (List.take l.length (List.drop (0 : Nat) (List.replicate l.length (0 : Int)))) l.length
      intro n101
      intro q101 -- n101 = (↑l.length : Int)
      intro n103
      intro q103 -- n103 = (↑l.length : Int)
      refine br_intro (fun c39 => ?_) (fun c39 => ?_) -- bif bif true then (0 : Int) == (0 : Int) else false then n101 == n103 else false
      · -- yes
        simp at c39 -- n101 = n103
        have h40 : tot (List.take l.length (List.drop (0 : Nat) ys_99)) ≤ (3000000 : Nat) := by
          rw [h38]
          have t := totOuts q96
          omega
        refine ⟨h40, ?_⟩
        intro ys_105
        intro n_106
        intro h41 -- ys_105 = (List.take l.length (List.drop (0 : Nat) ys_99)).flatten
        intro h42 -- ys_105.length = n_106
        refine ⟨by first | omega | (dsimp only; omega), ?_⟩ -- tot l ≤ (3000000 : Nat)
        intro ys_109
        intro n_110
        intro h43 -- ys_109 = l.flatten
        intro h44 -- ys_109.length = n_110
        -- k (AV.bool (bif true then { data := (List.take n_106 (List.drop (0 : Nat) ys_105)).toArray : ByteArray }.data.toList == { data := (List.take n_110 (List.drop (0 : Nat) ys_109)).toArray : ByteArray }.data.toList else false)) [] []
        have F : ys_105 = ys_109 := by
          rw [h41, h38, takeOuts, h43]
          rw [takeAll h28.2.1]
          exact keeps_all (fun j _ => h28.2.2.1 j) (by omega) (h28.2.2.2.1 _ (by omega))
        have N : n_106 = n_110 := by rw [← h42, ← h44, F]
        exact k_true hk (by rw [F, N]; simp)
      · -- no
        simp at c39 -- ¬n101 = n103
        exfalso; omega

theorem wireKeeps_ok : Holds Try.prog 6 lawKeeps := by
  refine fn_sound (env := mkEnv T4) (tab_ok T4_ok) Try.func6 Try.call6 fun args k h => ?_
  match args, h with
  | [.sl 6 l, .sl 4 hold], h => exact ⟨by kernel_rfl, keepsLoops l hold, fun _ _ => none, .cast (by kernel_rfl) (wireKeeps_vc l hold h.1 h.2.1 h.2.2.1 k h.2.2.2)⟩
set_option maxHeartbeats 2000000 in
theorem wireMuch_vc (l : List (List UInt8)) (w : List UInt8) (a : List Int) (h01 : l.length ≤ (1048576 : Nat)) (h02 : tot l ≤ (1048576 : Nat)) (h03 : w.length ≤ (1048576 : Nat)) (h04 : a.length ≤ (1048576 : Nat)) (k : AV → List (Option Blk) → List Blk → Prop) (hk : k (AV.bool true) [] []) :
  ∀ (b_1 : Bool),
  ((b_1 = true) →
   (l.length ≤ (200 : Nat)) ∧
   (tot l ≤ (16384 : Nat))) →
  br (!b_1)
   ((k (AV.bool true) [] []))
   ((
     ∀ (e_3 : Int),
     (e_3 = rE l w a) →
     (e_3 ≠ (0 : Int)) →
     br (e_3 != (0 : Int))
      (∀ (n6 : Int),
       (n6 = (0 : Int)) →
       (k (AV.bool (bif true then n6 == (0 : Int) else false)) [] []))
      ((tot l ≤ (3000000 : Nat)) ∧
       ∀ (ys_8 : List UInt8),
       ∀ (n_9 : Nat),
       (ys_8 = l.flatten) →
       (ys_8.length = n_9) →
       ∀ (n12 : Int),
       (n12 = (↑n_9 : Int)) →
       ((-9223372036854775808 : Int) ≤ n12 ∧ n12 ≤ (9223372036854775807 : Int)) →
       ∀ (n15 : Int),
       (n15 = (↑l.length : Int)) →
       ((-9223372036854775808 : Int) ≤ n15 ∧ n15 ≤ (9223372036854775807 : Int)) →
       (
        ((0 : Int) ≤ n15) ∧
        (n15 ≤ n15) ∧
        (n15 * (↑(1 : Nat) : Int) ≤ (140737488355328 : Int))) ∧
       (
        ∃ (v : Int × Int × List UInt8 × List (List UInt8)),
        (l = l) ∧
        (a = a) ∧
        (true = true) ∧
        (False) ∧
        (n12 = v.snd.fst) ∧
        ((0 : Nat) = (0 : Nat)) ∧
        (n15.toNat = l.length) ∧
        ((0 : Int) = v.fst) ∧
        (False) ∧
        (List.replicate n15.toNat (UInt8.ofNat (Int.toNat (0 : Int))) = v.snd.snd.fst) ∧
        (
         ((0 : Int) ≤ v.fst) ∧
         (v.fst ≤ (↑l.length : Int))) ∧
        (v.snd.snd.fst.length = l.length) ∧
        (
         ∀ (j_18 : Nat),
         (j_18 < v.fst.toNat) →
         ((v.snd.snd.fst.getD j_18 (0 : UInt8)).toNat = (1 : Nat))) ∧
        (v.snd.fst = (↑(tot l) : Int)) ∧
        (v.snd.snd.snd = outs l w a l.length) ∧
        (rE l w a = (0 : Int)) ∧
        (l.length ≤ (200 : Nat)) ∧
        (tot l ≤ (16384 : Nat))) ∧
       ∀ (v_20 : Int × Int × List UInt8 × List (List UInt8)),
       (((0 : Int) ≤ v_20.fst ∧ v_20.fst ≤ (↑l.length : Int)) ∧ v_20.snd.snd.fst.length = l.length ∧ (∀ (j : Nat), j < v_20.fst.toNat → (v_20.snd.snd.fst.getD j (0 : UInt8)).toNat = (1 : Nat)) ∧ v_20.snd.fst = (↑(tot l) : Int) ∧ v_20.snd.snd.snd = outs l w a l.length ∧ rE l w a = (0 : Int) ∧ l.length ≤ (200 : Nat) ∧ tot l ≤ (16384 : Nat)) →
       ∀ (n22 : Int),
       (n22 = (↑l.length : Int)) →
       ((-9223372036854775808 : Int) ≤ n22 ∧ n22 ≤ (9223372036854775807 : Int)) →
       br (decide (v_20.fst < n22))
        (((0 : Int) ≤ v_20.fst) ∧
         (v_20.fst < (↑l.length : Int)) ∧
         ((0 : Nat) + v_20.fst.toNat < v_20.snd.snd.fst.length) ∧
         ∀ (z25 : List UInt8),
         (z25 = v_20.snd.snd.fst.set ((0 : Nat) + v_20.fst.toNat) (UInt8.ofNat (Int.toNat (1 : Int)))) →
         ∀ (n27 : Int),
         (n27 = IntKind.i64.wrap (v_20.fst + (1 : Int))) →
         ((-9223372036854775808 : Int) ≤ n27 ∧ n27 ≤ (9223372036854775807 : Int)) →
         ∃ (v' : Int × Int × List UInt8 × List (List UInt8)),
         (l = l) ∧
         (a = a) ∧
         (true = true) ∧
         ((0 : Nat) = (0 : Nat)) ∧
         (l.length = l.length) ∧
         (v_20.snd.fst = v'.snd.fst) ∧
         ((0 : Nat) = (0 : Nat)) ∧
         (l.length = l.length) ∧
         (n27 = v'.fst) ∧
         (v_20.snd.snd.snd = v'.snd.snd.snd) ∧
         (z25 = v'.snd.snd.fst) ∧
         (
          (
           ((0 : Int) ≤ v'.fst) ∧
           (v'.fst ≤ (↑l.length : Int))) ∧
          (v'.snd.snd.fst.length = l.length) ∧
          (
           ∀ (j_30 : Nat),
           (j_30 < v'.fst.toNat) →
           ((v'.snd.snd.fst.getD j_30 (0 : UInt8)).toNat = (1 : Nat))) ∧
          (v'.snd.fst = (↑(tot l) : Int)) ∧
          (v'.snd.snd.snd = outs l w a l.length) ∧
          (rE l w a = (0 : Int)) ∧
          (l.length ≤ (200 : Nat)) ∧
          (tot l ≤ (16384 : Nat))) ∧
         (((↑l.length : Int) - v'.fst).toNat < ((↑l.length : Int) - v_20.fst).toNat))
        ((
          ∀ (e_32 : Int),
          (e_32 = rE l (List.take l.length (List.drop (0 : Nat) v_20.snd.snd.fst)) a) →
          (e_32 ≠ (0 : Int)) →
          br (bif true then e_32 == (0 : Int) else false)
           ((tot (List.take l.length (List.drop (0 : Nat) v_20.snd.snd.snd)) ≤ (3000000 : Nat)) ∧
            ∀ (ys_35 : List UInt8),
            ∀ (n_36 : Nat),
            (ys_35 = (List.take l.length (List.drop (0 : Nat) v_20.snd.snd.snd)).flatten) →
            (ys_35.length = n_36) →
            ∀ (n39 : Int),
            (n39 = (↑n_36 : Int)) →
            ∀ (n41 : Int),
            (n41 = IntKind.i64.wrap ((2 : Int) * v_20.snd.fst)) →
            br (bif true then decide (n39 ≤ n41) else false)
             ((False))
             ((false = false) ∧
              ∀ (n43 : Int),
              (n43 = (↑l.length : Int)) →
              ∀ (n45 : Int),
              (n45 = (↑l.length : Int)) →
              (k (AV.bool (bif false then n43 == n45 else false)) [] [])))
           (∀ (n47 : Int),
            (n47 = IntKind.i64.wrap ((2 : Int) * v_20.snd.fst)) →
            (false = false) ∧
            (false = false) ∧
            ∀ (n48 : Int),
            (n48 = (↑l.length : Int)) →
            ∀ (n50 : Int),
            (n50 = (↑l.length : Int)) →
            (k (AV.bool (bif false then n48 == n50 else false)) [] []))) ∧
         ((rE l (List.take l.length (List.drop (0 : Nat) v_20.snd.snd.fst)) a = (0 : Int)) →
         ∀ (ys_53 : List (List UInt8)),
         (ys_53 = outs l (List.take l.length (List.drop (0 : Nat) v_20.snd.snd.fst)) a l.length) →
         (tot (List.take l.length (List.drop (0 : Nat) v_20.snd.snd.snd)) ≤ (3000000 : Nat)) ∧
         ∀ (ys_55 : List UInt8),
         ∀ (n_56 : Nat),
         (ys_55 = (List.take l.length (List.drop (0 : Nat) v_20.snd.snd.snd)).flatten) →
         (ys_55.length = n_56) →
         ∀ (n59 : Int),
         (n59 = (↑n_56 : Int)) →
         ∀ (n61 : Int),
         (n61 = IntKind.i64.wrap ((2 : Int) * v_20.snd.fst)) →
         br (bif true then decide (n59 ≤ n61) else false)
          ((tot (List.take l.length (List.drop (0 : Nat) ys_53)) ≤ (3000000 : Nat)) ∧
           ∀ (ys_63 : List UInt8),
           ∀ (n_64 : Nat),
           (ys_63 = (List.take l.length (List.drop (0 : Nat) ys_53)).flatten) →
           (ys_63.length = n_64) →
           ∀ (n67 : Int),
           (n67 = (↑n_64 : Int)) →
           ∀ (n69 : Int),
           (n69 = (↑l.length : Int)) →
           ∀ (n71 : Int),
           (n71 = (↑l.length : Int)) →
           (k (AV.bool (bif bif true then n67 == (0 : Int) else false then n69 == n71 else false)) [] []))
          ((false = false) ∧
           ∀ (n73 : Int),
           (n73 = (↑l.length : Int)) →
           ∀ (n75 : Int),
           (n75 = (↑l.length : Int)) →
           (k (AV.bool (bif false then n73 == n75 else false)) [] [])))))) ∧
    ((rE l w a = (0 : Int)) →
    ∀ (ys_77 : List (List UInt8)),
    (ys_77 = outs l w a l.length) →
    (tot l ≤ (3000000 : Nat)) ∧
    ∀ (ys_79 : List UInt8),
    ∀ (n_80 : Nat),
    (ys_79 = l.flatten) →
    (ys_79.length = n_80) →
    ∀ (n83 : Int),
    (n83 = (↑n_80 : Int)) →
    ((-9223372036854775808 : Int) ≤ n83 ∧ n83 ≤ (9223372036854775807 : Int)) →
    ∀ (n86 : Int),
    (n86 = (↑l.length : Int)) →
    ((-9223372036854775808 : Int) ≤ n86 ∧ n86 ≤ (9223372036854775807 : Int)) →
    (
     ((0 : Int) ≤ n86) ∧
     (n86 ≤ n86) ∧
     (n86 * (↑(1 : Nat) : Int) ≤ (140737488355328 : Int))) ∧
    (
     ∃ (v : Int × Int × List UInt8 × List (List UInt8)),
     (l = l) ∧
     (a = a) ∧
     (true = true) ∧
     ((0 : Nat) = (0 : Nat)) ∧
     (l.length = l.length) ∧
     (n83 = v.snd.fst) ∧
     ((0 : Nat) = (0 : Nat)) ∧
     (n86.toNat = l.length) ∧
     ((0 : Int) = v.fst) ∧
     (ys_77 = v.snd.snd.snd) ∧
     (List.replicate n86.toNat (UInt8.ofNat (Int.toNat (0 : Int))) = v.snd.snd.fst) ∧
     (
      ((0 : Int) ≤ v.fst) ∧
      (v.fst ≤ (↑l.length : Int))) ∧
     (v.snd.snd.fst.length = l.length) ∧
     (
      ∀ (j_89 : Nat),
      (j_89 < v.fst.toNat) →
      ((v.snd.snd.fst.getD j_89 (0 : UInt8)).toNat = (1 : Nat))) ∧
     (v.snd.fst = (↑(tot l) : Int)) ∧
     (v.snd.snd.snd = outs l w a l.length) ∧
     (rE l w a = (0 : Int)) ∧
     (l.length ≤ (200 : Nat)) ∧
     (tot l ≤ (16384 : Nat))) ∧
    ∀ (v_91 : Int × Int × List UInt8 × List (List UInt8)),
    (((0 : Int) ≤ v_91.fst ∧ v_91.fst ≤ (↑l.length : Int)) ∧ v_91.snd.snd.fst.length = l.length ∧ (∀ (j : Nat), j < v_91.fst.toNat → (v_91.snd.snd.fst.getD j (0 : UInt8)).toNat = (1 : Nat)) ∧ v_91.snd.fst = (↑(tot l) : Int) ∧ v_91.snd.snd.snd = outs l w a l.length ∧ rE l w a = (0 : Int) ∧ l.length ≤ (200 : Nat) ∧ tot l ≤ (16384 : Nat)) →
    ∀ (n93 : Int),
    (n93 = (↑l.length : Int)) →
    ((-9223372036854775808 : Int) ≤ n93 ∧ n93 ≤ (9223372036854775807 : Int)) →
    br (decide (v_91.fst < n93))
     (((0 : Int) ≤ v_91.fst) ∧
      (v_91.fst < (↑l.length : Int)) ∧
      ((0 : Nat) + v_91.fst.toNat < v_91.snd.snd.fst.length) ∧
      ∀ (z96 : List UInt8),
      (z96 = v_91.snd.snd.fst.set ((0 : Nat) + v_91.fst.toNat) (UInt8.ofNat (Int.toNat (1 : Int)))) →
      ∀ (n98 : Int),
      (n98 = IntKind.i64.wrap (v_91.fst + (1 : Int))) →
      ((-9223372036854775808 : Int) ≤ n98 ∧ n98 ≤ (9223372036854775807 : Int)) →
      ∃ (v' : Int × Int × List UInt8 × List (List UInt8)),
      (l = l) ∧
      (a = a) ∧
      (true = true) ∧
      ((0 : Nat) = (0 : Nat)) ∧
      (l.length = l.length) ∧
      (v_91.snd.fst = v'.snd.fst) ∧
      ((0 : Nat) = (0 : Nat)) ∧
      (l.length = l.length) ∧
      (n98 = v'.fst) ∧
      (v_91.snd.snd.snd = v'.snd.snd.snd) ∧
      (z96 = v'.snd.snd.fst) ∧
      (
       (
        ((0 : Int) ≤ v'.fst) ∧
        (v'.fst ≤ (↑l.length : Int))) ∧
       (v'.snd.snd.fst.length = l.length) ∧
       (
        ∀ (j_101 : Nat),
        (j_101 < v'.fst.toNat) →
        ((v'.snd.snd.fst.getD j_101 (0 : UInt8)).toNat = (1 : Nat))) ∧
       (v'.snd.fst = (↑(tot l) : Int)) ∧
       (v'.snd.snd.snd = outs l w a l.length) ∧
       (rE l w a = (0 : Int)) ∧
       (l.length ≤ (200 : Nat)) ∧
       (tot l ≤ (16384 : Nat))) ∧
      (((↑l.length : Int) - v'.fst).toNat < ((↑l.length : Int) - v_91.fst).toNat))
     ((
       ∀ (e_103 : Int),
       (e_103 = rE l (List.take l.length (List.drop (0 : Nat) v_91.snd.snd.fst)) a) →
       (e_103 ≠ (0 : Int)) →
       br (bif true then e_103 == (0 : Int) else false)
        ((tot (List.take l.length (List.drop (0 : Nat) v_91.snd.snd.snd)) ≤ (3000000 : Nat)) ∧
         ∀ (ys_106 : List UInt8),
         ∀ (n_107 : Nat),
         (ys_106 = (List.take l.length (List.drop (0 : Nat) v_91.snd.snd.snd)).flatten) →
         (ys_106.length = n_107) →
         ∀ (n110 : Int),
         (n110 = (↑n_107 : Int)) →
         ∀ (n112 : Int),
         (n112 = IntKind.i64.wrap ((2 : Int) * v_91.snd.fst)) →
         br (bif true then decide (n110 ≤ n112) else false)
          ((False))
          ((false = false) ∧
           ∀ (n114 : Int),
           (n114 = (↑l.length : Int)) →
           ∀ (n116 : Int),
           (n116 = (↑l.length : Int)) →
           (k (AV.bool (bif false then n114 == n116 else false)) [] [])))
        (∀ (n118 : Int),
         (n118 = IntKind.i64.wrap ((2 : Int) * v_91.snd.fst)) →
         (false = false) ∧
         (false = false) ∧
         ∀ (n119 : Int),
         (n119 = (↑l.length : Int)) →
         ∀ (n121 : Int),
         (n121 = (↑l.length : Int)) →
         (k (AV.bool (bif false then n119 == n121 else false)) [] []))) ∧
      ((rE l (List.take l.length (List.drop (0 : Nat) v_91.snd.snd.fst)) a = (0 : Int)) →
      ∀ (ys_124 : List (List UInt8)),
      (ys_124 = outs l (List.take l.length (List.drop (0 : Nat) v_91.snd.snd.fst)) a l.length) →
      (tot (List.take l.length (List.drop (0 : Nat) v_91.snd.snd.snd)) ≤ (3000000 : Nat)) ∧
      ∀ (ys_126 : List UInt8),
      ∀ (n_127 : Nat),
      (ys_126 = (List.take l.length (List.drop (0 : Nat) v_91.snd.snd.snd)).flatten) →
      (ys_126.length = n_127) →
      ∀ (n130 : Int),
      (n130 = (↑n_127 : Int)) →
      ∀ (n132 : Int),
      (n132 = IntKind.i64.wrap ((2 : Int) * v_91.snd.fst)) →
      br (bif true then decide (n130 ≤ n132) else false)
       ((tot (List.take l.length (List.drop (0 : Nat) ys_124)) ≤ (3000000 : Nat)) ∧
        ∀ (ys_134 : List UInt8),
        ∀ (n_135 : Nat),
        (ys_134 = (List.take l.length (List.drop (0 : Nat) ys_124)).flatten) →
        (ys_134.length = n_135) →
        ∀ (n138 : Int),
        (n138 = (↑n_135 : Int)) →
        ∀ (n140 : Int),
        (n140 = (↑l.length : Int)) →
        ∀ (n142 : Int),
        (n142 = (↑l.length : Int)) →
        (k (AV.bool (bif bif true then n138 == (0 : Int) else false then n140 == n142 else false)) [] []))
       ((false = false) ∧
        ∀ (n144 : Int),
        (n144 = (↑l.length : Int)) →
        ∀ (n146 : Int),
        (n146 = (↑l.length : Int)) →
        (k (AV.bool (bif false then n144 == n146 else false)) [] [])))))) := by
  intro b_1
  intro h1 -- b_1 = true → l.length ≤ (200 : Nat) ∧ tot l ≤ (16384 : Nat)
  refine br_intro (fun c2 => ?_) (fun c2 => ?_) -- !b_1
  · -- yes
    simp at c2 -- b_1 = false
    exact by exact hk -- k (AV.bool true) [] []
  · -- no
    simp at c2 -- b_1 = true
    refine ⟨?_, ?_⟩
    · -- left
      intro e_3
      intro h3 -- e_3 = rE l w a
      intro h4 -- e_3 ≠ (0 : Int)
      refine br_intro (fun c5 => ?_) (fun c5 => ?_) -- e_3 != (0 : Int)
      · -- yes
        simp at c5 -- ¬e_3 = (0 : Int)
        intro n6
        intro q6 -- n6 = (0 : Int)
        exact by exact k_true hk (by simp only [*]; simp) -- k (AV.bool (bif true then n6 == (0 : Int) else false)) [] []
      · -- no
        simp at c5 -- e_3 = (0 : Int)
        exfalso; omega
    intro q6 -- rE l w a = (0 : Int)
    intro ys_77
    intro h6 -- ys_77 = outs l w a l.length
    refine ⟨by first | omega | (dsimp only; omega), ?_⟩ -- tot l ≤ (3000000 : Nat)
    intro ys_79
    intro n_80
    intro h7 -- ys_79 = l.flatten
    intro h8 -- ys_79.length = n_80
    intro n83
    intro q83 -- n83 = (↑n_80 : Int)
    intro ⟨l83, u83⟩ -- (-9223372036854775808 : Int) ≤ n83 ∧ n83 ≤ (9223372036854775807 : Int)
    intro n86
    intro q86 -- n86 = (↑l.length : Int)
    intro ⟨l86, u86⟩ -- (-9223372036854775808 : Int) ≤ n86 ∧ n86 ≤ (9223372036854775807 : Int)
    refine ⟨?_, ?_⟩
    · -- left
      refine ⟨by first | omega | (dsimp only; omega), ?_⟩ -- (0 : Int) ≤ n86
      refine ⟨by first | omega | (dsimp only; omega), ?_⟩ -- n86 ≤ n86
      exact by omega -- n86 * (↑(1 : Nat) : Int) ≤ (140737488355328 : Int)
    refine ⟨?_, ?_⟩
    · -- left
      refine ⟨((0 : Int), n83, List.replicate n86.toNat (UInt8.ofNat (Int.toNat (0 : Int))), ys_77), ?_⟩
      refine ⟨by first | with_reducible rfl | rfl, ?_⟩ -- l = l
      refine ⟨by first | with_reducible rfl | rfl, ?_⟩ -- a = a
      refine ⟨by first | with_reducible rfl | rfl, ?_⟩ -- true = true
      refine ⟨by first | with_reducible rfl | rfl, ?_⟩ -- (0 : Nat) = (0 : Nat)
      refine ⟨by first | with_reducible rfl | rfl, ?_⟩ -- l.length = l.length
      refine ⟨by first | with_reducible rfl | rfl, ?_⟩ -- n83 = n83
      refine ⟨by first | with_reducible rfl | rfl, ?_⟩ -- (0 : Nat) = (0 : Nat)
      refine ⟨by show n86.toNat = l.length; omega, ?_⟩ -- n86.toNat = l.length
      refine ⟨by first | with_reducible rfl | rfl, ?_⟩ -- (0 : Int) = (0 : Int)
      refine ⟨by first | with_reducible rfl | rfl, ?_⟩ -- ys_77 = ys_77
      refine ⟨by first | with_reducible rfl | rfl, ?_⟩ -- List.replicate n86.toNat (UInt8.ofNat (Int.toNat (0 : Int))) = List.replicate n86.toNat (UInt8.ofNat (Int.toNat (0 : Int)))
      refine ⟨by first | omega | (dsimp only; omega), ?_⟩ -- (0 : Int) ≤ (0 : Int) ∧ (0 : Int) ≤ (↑l.length : Int)
      have h9 : (List.replicate n86.toNat (UInt8.ofNat (Int.toNat (0 : Int)))).length = l.length := by
        rw [List.length_replicate]; omega
      refine ⟨h9, ?_⟩
      refine ⟨?_, ?_⟩
      · -- left
        intro j_89
        intro h10 -- j_89 < Int.toNat (0 : Int)
        exact by show ((List.replicate n86.toNat (UInt8.ofNat (Int.toNat (0 : Int)))).getD j_89 (0 : UInt8)).toNat = (1 : Nat); omega -- ((List.replicate n86.toNat (UInt8.ofNat (Int.toNat (0 : Int)))).getD j_89 (0 : UInt8)).toNat = (1 : Nat)
      have h11 : n83 = (↑(tot l) : Int) := by
        rw [q83, ← h8, h7]; rfl
      refine ⟨h11, ?_⟩
      refine ⟨by show ys_77 = outs l w a l.length; assumption, ?_⟩ -- ys_77 = outs l w a l.length
      refine ⟨by show rE l w a = (0 : Int); assumption, ?_⟩ -- rE l w a = (0 : Int)
      have h12 : l.length ≤ (200 : Nat) := by
        exact (h1 c2).1
      refine ⟨h12, ?_⟩
      -- tot l ≤ (16384 : Nat)
      exact (h1 c2).2
    intro v_91
    intro h13 -- ((0 : Int) ≤ v_91.fst ∧ v_91.fst ≤ (↑l.length : Int)) ∧ v_91.snd.snd.fst.length = l.length ∧ (∀ (j : Nat), j < v_91.fst.toNat → (v_91.snd.snd.fst.getD j (0 : UInt8)).toNat = (1 : Nat)) ∧ v_91.snd.fst = (↑(tot l) : Int) ∧ v_91.snd.snd.snd = outs l w a l.length ∧ rE l w a = (0 : Int) ∧ l.length ≤ (200 : Nat) ∧ tot l ≤ (16384 : Nat)
    intro n93
    intro q93 -- n93 = (↑l.length : Int)
    intro ⟨l93, u93⟩ -- (-9223372036854775808 : Int) ≤ n93 ∧ n93 ≤ (9223372036854775807 : Int)
    refine brd (fun c14 => ?_) (fun c14 => ?_) -- decide (v_91.fst < n93)
    · -- yes
      refine ⟨by first | omega | (dsimp only; omega), ?_⟩ -- (0 : Int) ≤ v_91.fst
      refine ⟨by first | omega | (dsimp only; omega), ?_⟩ -- v_91.fst < (↑l.length : Int)
      refine ⟨by first | omega | (dsimp only; omega), ?_⟩ -- (0 : Nat) + v_91.fst.toNat < v_91.snd.snd.fst.length
      intro z96
      intro qz96 -- z96 = v_91.snd.snd.fst.set ((0 : Nat) + v_91.fst.toNat) (UInt8.ofNat (Int.toNat (1 : Int)))
      intro n98
      intro q98 -- n98 = IntKind.i64.wrap (v_91.fst + (1 : Int))
      rw [IntKind.wrap_i64] at q98
      intro ⟨l98, u98⟩ -- (-9223372036854775808 : Int) ≤ n98 ∧ n98 ≤ (9223372036854775807 : Int)
      refine ⟨(n98, v_91.snd.fst, z96, v_91.snd.snd.snd), ?_⟩
      refine ⟨by first | with_reducible rfl | rfl, ?_⟩ -- l = l
      refine ⟨by first | with_reducible rfl | rfl, ?_⟩ -- a = a
      refine ⟨by first | with_reducible rfl | rfl, ?_⟩ -- true = true
      refine ⟨by first | with_reducible rfl | rfl, ?_⟩ -- (0 : Nat) = (0 : Nat)
      refine ⟨by first | with_reducible rfl | rfl, ?_⟩ -- l.length = l.length
      refine ⟨by first | with_reducible rfl | rfl, ?_⟩ -- v_91.snd.fst = v_91.snd.fst
      refine ⟨by first | with_reducible rfl | rfl, ?_⟩ -- (0 : Nat) = (0 : Nat)
      refine ⟨by first | with_reducible rfl | rfl, ?_⟩ -- l.length = l.length
      refine ⟨by first | with_reducible rfl | rfl, ?_⟩ -- n98 = n98
      refine ⟨by first | with_reducible rfl | rfl, ?_⟩ -- v_91.snd.snd.snd = v_91.snd.snd.snd
      refine ⟨by first | with_reducible rfl | rfl, ?_⟩ -- z96 = z96
      refine ⟨?_, ?_⟩
      · -- left
        refine ⟨by first | omega | (dsimp only; omega), ?_⟩ -- (0 : Int) ≤ n98 ∧ n98 ≤ (↑l.length : Int)
        have h15 : z96.length = l.length := by
          rw [qz96, List.length_set]; exact h13.2.1
        refine ⟨h15, ?_⟩
        refine ⟨?_, ?_⟩
        · -- left
          intro j_101
          intro h16 -- j_101 < n98.toNat
          -- (z96.getD j_101 (0 : UInt8)).toNat = (1 : Nat)
          rw [qz96, List.getD_eq_getElem?_getD, List.getElem?_set]
          split
          · split
            · rfl
            · omega
          · rw [← List.getD_eq_getElem?_getD]; exact h13.2.2.1 _ (by omega)
        refine ⟨by show v_91.snd.fst = (↑(tot l) : Int); omega, ?_⟩ -- v_91.snd.fst = (↑(tot l) : Int)
        have h17 : v_91.snd.snd.snd = outs l w a l.length := by
          exact h13.2.2.2.2.1
        refine ⟨h17, ?_⟩
        refine ⟨by show rE l w a = (0 : Int); assumption, ?_⟩ -- rE l w a = (0 : Int)
        refine ⟨by show l.length ≤ (200 : Nat); omega, ?_⟩ -- l.length ≤ (200 : Nat)
        exact by show tot l ≤ (16384 : Nat); omega -- tot l ≤ (16384 : Nat)
      exact by show ((↑l.length : Int) - n98).toNat < ((↑l.length : Int) - v_91.fst).toNat; omega -- ((↑l.length : Int) - n98).toNat < ((↑l.length : Int) - v_91.fst).toNat
    · -- no
      refine ⟨?_, ?_⟩
      · -- left
        intro e_103
        intro h18 -- e_103 = rE l (List.take l.length (List.drop (0 : Nat) v_91.snd.snd.fst)) a
        intro h19 -- e_103 ≠ (0 : Int)
        refine br_intro (fun c20 => ?_) (fun c20 => ?_) -- bif true then e_103 == (0 : Int) else false
        · -- yes
          simp at c20 -- e_103 = (0 : Int)
          exfalso; omega
        · -- no
          simp at c20 -- ¬e_103 = (0 : Int)
          intro n118
          intro q118 -- n118 = IntKind.i64.wrap ((2 : Int) * v_91.snd.fst)
          rw [IntKind.wrap_i64] at q118
          refine ⟨by with_reducible rfl, ?_⟩ -- false = false
          refine ⟨by with_reducible rfl, ?_⟩ -- false = false
          intro n119
          intro q119 -- n119 = (↑l.length : Int)
          intro n121
          intro q121 -- n121 = (↑l.length : Int)
          -- k (AV.bool (bif false then n119 == n121 else false)) [] []
          exact absurd (h18.trans (losesE h13.2.2.2.2.2.1 h13.2.1 (fun j hj => h13.2.2.1 j (by omega)) h13.2.2.2.2.2.2.1 h13.2.2.2.2.2.2.2)) h19
      intro q121 -- rE l (List.take l.length (List.drop (0 : Nat) v_91.snd.snd.fst)) a = (0 : Int)
      intro ys_124
      intro h21 -- ys_124 = outs l (List.take l.length (List.drop (0 : Nat) v_91.snd.snd.fst)) a l.length
      have h22 : tot (List.take l.length (List.drop (0 : Nat) v_91.snd.snd.snd)) ≤ (3000000 : Nat) := by
        rw [h13.2.2.2.2.1]
        have t := totOuts h13.2.2.2.2.2.1
        omega
      refine ⟨h22, ?_⟩
      intro ys_126
      intro n_127
      intro h23 -- ys_126 = (List.take l.length (List.drop (0 : Nat) v_91.snd.snd.snd)).flatten
      intro h24 -- ys_126.length = n_127
      intro n130
      intro q130 -- n130 = (↑n_127 : Int)
      intro n132
      intro q132 -- n132 = IntKind.i64.wrap ((2 : Int) * v_91.snd.fst)
      rw [IntKind.wrap_i64] at q132
      refine br_intro (fun c25 => ?_) (fun c25 => ?_) -- bif true then decide (n130 ≤ n132) else false
      · -- yes
        simp at c25 -- n130 ≤ n132
        have h26 : tot (List.take l.length (List.drop (0 : Nat) ys_124)) ≤ (3000000 : Nat) := by
          rw [h21]
          have t := totOuts q121
          omega
        refine ⟨h26, ?_⟩
        intro ys_134
        intro n_135
        intro h27 -- ys_134 = (List.take l.length (List.drop (0 : Nat) ys_124)).flatten
        intro h28 -- ys_134.length = n_135
        intro n138
        intro q138 -- n138 = (↑n_135 : Int)
        intro n140
        intro q140 -- n140 = (↑l.length : Int)
        intro n142
        intro q142 -- n142 = (↑l.length : Int)
        -- k (AV.bool (bif bif true then n138 == (0 : Int) else false then n140 == n142 else false)) [] []
        have Z : n_135 = 0 := by
          rw [← h28, h27, h21, takeOuts]
          rw [takeAll h13.2.1, (loses_out (fun j hj => h13.2.2.1 j (by omega)) l.length (Nat.le_refl _)).1]; rfl
        exact k_true hk (by rw [q138, Z, q140, q142]; simp)
      · -- no
        simp at c25 -- n132 < n130
        refine ⟨by with_reducible rfl, ?_⟩ -- false = false
        intro n144
        intro q144 -- n144 = (↑l.length : Int)
        intro n146
        intro q146 -- n146 = (↑l.length : Int)
        -- k (AV.bool (bif false then n144 == n146 else false)) [] []
        exfalso
        have t := much_all (rE_none h13.2.2.2.2.2.1).2.2.2
        have e : n_127 = (outs l w a l.length).flatten.length := by rw [← h24, h23, h13.2.2.2.2.1, takeOuts]
        omega

theorem wireMuch_ok : Holds Try.prog 7 lawMuch := by
  refine fn_sound (env := mkEnv T4) (tab_ok T4_ok) Try.func7 Try.call7 fun args k h => ?_
  match args, h with
  | [.sl 6 l, .sl 0 w, .sl 1 a], h => exact ⟨by kernel_rfl, muchLoops l w a, fun _ _ => none, .cast (by kernel_rfl) (wireMuch_vc l w a h.1 h.2.1 h.2.2.1 h.2.2.2.1 k h.2.2.2.2)⟩
end Go.Proofs.Ytkcnpemaocdnkaa
namespace Go.Proofs.Ytkcnpemaocdnkaa
open Go.ChangeShapes Go.WideShapes Go.ChangeAt Go.RowKit Go.Eng
set_option linter.unusedVariables false

theorem ownK : ownKnob Try.prog.godebug = none := by kernel_rfl
theorem laidK : laidOutB Try.prog = true := by kernel_rfl

theorem oneLeK {H : Type} (d : DataW H) : 1 ≤ Rows.uptoBulk d := by
  cases d with
  | lit l => cases l <;> simp [Rows.uptoBulk]
  | _ => simp [Rows.uptoBulk]
theorem sumLeK {H : Type} {α : Type} {Z : DataW H → α → Prop} (f : α → Nat) (hf : ∀ d x, Z d x → f x ≤ Rows.uptoBulk d) : ∀ (el : List (DataW H)) (xs : List α), ZAll Z el xs → (xs.map f).sum ≤ Rows.uptoBulkAll el
  | [], [], _ => by simp [Rows.uptoBulkAll]
  | d :: el, x :: xs, h => by
    have h1 := hf d x h.1
    have h2 := sumLeK f hf el xs h.2
    simp only [List.map_cons, List.sum_cons, Rows.uptoBulkAll]; omega
  | [], _ :: _, h => h.elim
  | _ :: _, [], h => h.elim
theorem sumBulkK {H : Type} {α : Type} {Z : DataW H → α → Prop} (f : α → Nat) (hf : ∀ d x, Z d x → f x ≤ Rows.uptoBulk d) {d : DataW H} {xs : List α} (h : DSz Z d xs) : (xs.map f).sum ≤ Rows.uptoBulk d := by
  rcases h with rfl | ⟨el, sp, rfl, h⟩
  · simp
  · have := sumLeK f hf el xs h
    simp only [Rows.uptoBulk]; omega
theorem onesLenK {α : Type} (xs : List α) : (xs.map fun _ => 1).sum = xs.length := by
  induction xs with
  | nil => rfl
  | cons x r ih => simp only [List.map_cons, List.sum_cons, List.length_cons, ih]; omega
theorem bulkLenK {H : Type} {α : Type} {Z : DataW H → α → Prop} {d : DataW H} {xs : List α} (h : DSz Z d xs) : xs.length ≤ Rows.uptoBulk d := by
  have := sumBulkK (fun _ : α => 1) (fun d _ _ => oneLeK d) h
  rwa [onesLenK] at this
theorem bulkTotK {H : Type} {d : DataW H} {xs : List (List UInt8)} (h : DSz (DSz Z0) d xs) : xs.flatten.length ≤ Rows.uptoBulk d := by
  have := sumBulkK List.length (fun d x h => bulkLenK h) h
  rwa [← List.length_flatten] at this
theorem bulkMsgK {H : Type} {d : DataW H} {xs : List Msg} (h : DSz ZMsg d xs) : (xs.map fun m => m.body.length).sum ≤ Rows.uptoBulk d :=
  sumBulkK (fun m : Msg => m.body.length) (fun d x h => by
    obtain ⟨d0, d1, d2, rfl, h⟩ := h
    have := bulkLenK h
    simp only [Rows.uptoBulk, Rows.uptoBulkAll]; omega) h

set_option maxHeartbeats 800000 in
set_option maxRecDepth 100000 in
theorem wireKeepsContract (H : Type) (enc : TypeId × Value → H) (W : World) (base : Nat) (args : Array Value) (ds gs : List (DataW H)) (before : List MemPlace)
    (hval0 : ∀ (j : Nat) t v, Try.f6.params[j]? = some t → args[j]? = some v → Value.okWide Try.prog W .any base t v)
    (hW : DataW.Whole enc Try.prog Try.f6.params.toList Rows.wireKeepsSpec.vars false W args.toList ds gs before) (hk : Rows.uptoSmall H (ds ++ gs) = true) :
    Calls Try.prog 6 args W fun e W' => ∃ v, e = .returned v ∧ Rows.wireKeepsSpec.post enc Try.prog Try.f6 false true false false W args v W' := by
  have hval : ∀ (j : Nat) t v, Try.f6.params[j]? = some t → args[j]? = some v → Value.okWide Try.prog W .any base t v := hval0
  have hW' := hW
  obtain ⟨p, q, hA0, hV, rfl, hfz, hnd⟩ := hW
  have hA : DataW.TrodAll enc Try.prog W 0 (fun _ => true) true Try.f6.params.toList args.toList ds p := hA0
  rw [Try.params6] at hA hval
  obtain ⟨v0, vs0, d0, ds0, p0, q0, hargs, rfl, rfl, h0, r0⟩ := trodAll_cons hA
  obtain ⟨v1, vs1, d1, ds1, p1, q1, rfl, rfl, rfl, h1, r1⟩ := trodAll_cons r0
  obtain ⟨rfl, rfl, rfl⟩ := trodAll_nil r1
  obtain rfl : args = #[v0, v1] := by cases args; simp_all
  obtain ⟨rfl, rfl⟩ := trodVars_none hV
  have k0 := h0
  have lt0 : ∀ x ∈ p0, x.block < W.heap.size := by obtain ⟨m, hm⟩ := k0; exact DataW.trod_lt m _ _ _ hm
  obtain ⟨xs0, w0, z0⟩ : ∃ xs : List (ty 6), Rep W (· < W.heap.size) noIds v0 (.sl 6 xs) ∧ DSz (DSz Z0) d0 xs := by
    obtain ⟨fuel, hf⟩ := h0
    exact rep_in (c := 6) (by decide) Try.underlying28 (by kernel_rfl) (cells_bytes Try.underlying22 Try.underlying5 (by kernel_rfl)) (hval 0 28 v0 rfl rfl) hf
  have k1 := h1
  have lt1 : ∀ x ∈ p1, x.block < W.heap.size := by obtain ⟨m, hm⟩ := k1; exact DataW.trod_lt m _ _ _ hm
  obtain ⟨xs1, w1, z1⟩ : ∃ xs : List (ty 4), Rep W (· < W.heap.size) noIds v1 (.sl 4 xs) ∧ DSz Z0 d1 xs := by
    obtain ⟨fuel, hf⟩ := h1
    exact rep_in (c := 4) (by decide) Try.underlying40 (by kernel_rfl) (cells_bool Try.underlying4) (hval 1 40 v1 rfl rfl) hf
  clear hA0 hval0
  have hb := of_decide_eq_true hk
  simp only [List.append_nil, Rows.uptoBulkAll] at hb
  have hz0 : xs0.length ≤ 1048576 := by have := bulkLenK z0; omega
  have ht0 : xs0.flatten.length ≤ 1048576 := by have := bulkTotK z0; omega
  have hz1 : xs1.length ≤ 1048576 := by have := bulkLenK z1; omega
  refine (calls_of_holds wireKeeps_ok Try.call6 (w := W) (vals := #[v0, v1]) (args := [.sl 6 xs0, .sl 4 xs1]) rfl (fun j v hj => ?_) ⟨hz0, ht0, hz1, rfl⟩).mono fun e W' ⟨he, bel⟩ => ?_
  · rcases j with _ | _ | j
    · simp at hj; subst hj; exact w0
    · simp at hj; subst hj; exact w1
    · simp at hj
  subst he
  exact ⟨_, rfl, _, _, _, [], _, [], hW', trodAll_mk1 (shut_bool Try.underlying4 _), (trodAll_cons_mk (Below.trod laidK (by kernel_rfl) (of_decide_eq_true (by kernel_rfl)) k0 bel lt0) (trodAll_cons_mk (Below.trod laidK (by kernel_rfl) (of_decide_eq_true (by kernel_rfl)) k1 bel lt1) trodAll_mk0)), rfl, bel.frame _, fun h => by cases h⟩

set_option maxRecDepth 100000 in
theorem wireKeepsLifted (os : Os) (started : os.Started) (H : Type) (enc : TypeId × Value → H) (F : Stop.Interp) :
    ReturnsInHanded {} Try.checked os 6 .any ((Rows.OpenSpec.upto Rows.wireKeepsSpec).pre6 enc Try.prog Try.f6 Rows.wireKeepsUptoRow.domain false) (((Rows.OpenSpec.upto Rows.wireKeepsSpec).at F).post enc Try.prog Try.f6 false true false false) := by
  refine returnsInHanded_of_cond (C := Try.checked) (s := Rows.OpenSpec.upto Rows.wireKeepsSpec) (k := Rows.uptoSmall) rfl ownK started (by kernel_rfl) Try.func6
    (OpenSpec.witness (enc := enc) (C := Try.checked) (s := Rows.OpenSpec.upto Rows.wireKeepsSpec) (k := Rows.uptoSmall) rfl false ⟨#[], #[.slice none 0 0, .slice none 0 0], []⟩ 8 (by kernel_rfl) (by kernel_rfl) (by kernel_rfl)
      (x := ([.nil, .nil], [], [])) (by kernel_rfl) rfl (by kernel_rfl)) ?_
  intro W base args ds gs before hval hW _ hk _
  exact wireKeepsContract H enc W base args ds gs before hval hW hk

theorem wireKeeps_said : Rows.WireKeepsUptoSaid :=
  OpenClaim.holds_of_cond 6 Try.f6 rfl rfl rfl rfl rfl rfl rfl ⟨rfl, rfl, rfl, rfl, rfl⟩ rfl rfl rfl rfl rfl (by kernel_rfl) Try.func6 (by kernel_rfl)
    (of_decide_eq_true (by kernel_rfl)) (by unfold Func.isWrapper; first | (rw [if_pos (by decide +kernel)]; kernel_rfl) | (rw [if_neg (by decide +kernel)]; exact ⟨rfl, rfl⟩))
    (fun os started H enc _ F => wireKeepsLifted os started H enc F)
#print axioms wireKeeps_said
end Go.Proofs.Ytkcnpemaocdnkaa

namespace Go.Proofs.Ytkcnpemaocdnkaa
open Go.ChangeShapes Go.WideShapes Go.ChangeAt Go.RowKit Go.Eng
set_option linter.unusedVariables false

theorem ownM : ownKnob Try.prog.godebug = none := by kernel_rfl
theorem laidM : laidOutB Try.prog = true := by kernel_rfl

theorem oneLeM {H : Type} (d : DataW H) : 1 ≤ Rows.uptoBulk d := by
  cases d with
  | lit l => cases l <;> simp [Rows.uptoBulk]
  | _ => simp [Rows.uptoBulk]
theorem sumLeM {H : Type} {α : Type} {Z : DataW H → α → Prop} (f : α → Nat) (hf : ∀ d x, Z d x → f x ≤ Rows.uptoBulk d) : ∀ (el : List (DataW H)) (xs : List α), ZAll Z el xs → (xs.map f).sum ≤ Rows.uptoBulkAll el
  | [], [], _ => by simp [Rows.uptoBulkAll]
  | d :: el, x :: xs, h => by
    have h1 := hf d x h.1
    have h2 := sumLeM f hf el xs h.2
    simp only [List.map_cons, List.sum_cons, Rows.uptoBulkAll]; omega
  | [], _ :: _, h => h.elim
  | _ :: _, [], h => h.elim
theorem sumBulkM {H : Type} {α : Type} {Z : DataW H → α → Prop} (f : α → Nat) (hf : ∀ d x, Z d x → f x ≤ Rows.uptoBulk d) {d : DataW H} {xs : List α} (h : DSz Z d xs) : (xs.map f).sum ≤ Rows.uptoBulk d := by
  rcases h with rfl | ⟨el, sp, rfl, h⟩
  · simp
  · have := sumLeM f hf el xs h
    simp only [Rows.uptoBulk]; omega
theorem onesLenM {α : Type} (xs : List α) : (xs.map fun _ => 1).sum = xs.length := by
  induction xs with
  | nil => rfl
  | cons x r ih => simp only [List.map_cons, List.sum_cons, List.length_cons, ih]; omega
theorem bulkLenM {H : Type} {α : Type} {Z : DataW H → α → Prop} {d : DataW H} {xs : List α} (h : DSz Z d xs) : xs.length ≤ Rows.uptoBulk d := by
  have := sumBulkM (fun _ : α => 1) (fun d _ _ => oneLeM d) h
  rwa [onesLenM] at this
theorem bulkTotM {H : Type} {d : DataW H} {xs : List (List UInt8)} (h : DSz (DSz Z0) d xs) : xs.flatten.length ≤ Rows.uptoBulk d := by
  have := sumBulkM List.length (fun d x h => bulkLenM h) h
  rwa [← List.length_flatten] at this
theorem bulkMsgM {H : Type} {d : DataW H} {xs : List Msg} (h : DSz ZMsg d xs) : (xs.map fun m => m.body.length).sum ≤ Rows.uptoBulk d :=
  sumBulkM (fun m : Msg => m.body.length) (fun d x h => by
    obtain ⟨d0, d1, d2, rfl, h⟩ := h
    have := bulkLenM h
    simp only [Rows.uptoBulk, Rows.uptoBulkAll]; omega) h

set_option maxHeartbeats 800000 in
set_option maxRecDepth 100000 in
theorem wireMuchContract (H : Type) (enc : TypeId × Value → H) (W : World) (base : Nat) (args : Array Value) (ds gs : List (DataW H)) (before : List MemPlace)
    (hval0 : ∀ (j : Nat) t v, Try.f7.params[j]? = some t → args[j]? = some v → Value.okWide Try.prog W .any base t v)
    (hW : DataW.Whole enc Try.prog Try.f7.params.toList Rows.wireMuchSpec.vars false W args.toList ds gs before) (hk : Rows.uptoSmall H (ds ++ gs) = true) :
    Calls Try.prog 7 args W fun e W' => ∃ v, e = .returned v ∧ Rows.wireMuchSpec.post enc Try.prog Try.f7 false true false false W args v W' := by
  have hval : ∀ (j : Nat) t v, Try.f7.params[j]? = some t → args[j]? = some v → Value.okWide Try.prog W .any base t v := hval0
  have hW' := hW
  obtain ⟨p, q, hA0, hV, rfl, hfz, hnd⟩ := hW
  have hA : DataW.TrodAll enc Try.prog W 0 (fun _ => true) true Try.f7.params.toList args.toList ds p := hA0
  rw [Try.params7] at hA hval
  obtain ⟨v0, vs0, d0, ds0, p0, q0, hargs, rfl, rfl, h0, r0⟩ := trodAll_cons hA
  obtain ⟨v1, vs1, d1, ds1, p1, q1, rfl, rfl, rfl, h1, r1⟩ := trodAll_cons r0
  obtain ⟨v2, vs2, d2, ds2, p2, q2, rfl, rfl, rfl, h2, r2⟩ := trodAll_cons r1
  obtain ⟨rfl, rfl, rfl⟩ := trodAll_nil r2
  obtain rfl : args = #[v0, v1, v2] := by cases args; simp_all
  obtain ⟨rfl, rfl⟩ := trodVars_none hV
  have k0 := h0
  have lt0 : ∀ x ∈ p0, x.block < W.heap.size := by obtain ⟨m, hm⟩ := k0; exact DataW.trod_lt m _ _ _ hm
  obtain ⟨xs0, w0, z0⟩ : ∃ xs : List (ty 6), Rep W (· < W.heap.size) noIds v0 (.sl 6 xs) ∧ DSz (DSz Z0) d0 xs := by
    obtain ⟨fuel, hf⟩ := h0
    exact rep_in (c := 6) (by decide) Try.underlying28 (by kernel_rfl) (cells_bytes Try.underlying22 Try.underlying5 (by kernel_rfl)) (hval 0 28 v0 rfl rfl) hf
  have k1 := h1
  have lt1 : ∀ x ∈ p1, x.block < W.heap.size := by obtain ⟨m, hm⟩ := k1; exact DataW.trod_lt m _ _ _ hm
  obtain ⟨xs1, w1, z1⟩ : ∃ xs : List (ty 0), Rep W (· < W.heap.size) noIds v1 (.sl 0 xs) ∧ DSz Z0 d1 xs := by
    obtain ⟨fuel, hf⟩ := h1
    exact rep_in (c := 0) (by decide) Try.underlying22 (by kernel_rfl) (cells_u8 Try.underlying5) (hval 1 22 v1 rfl rfl) hf
  have k2 := h2
  have lt2 : ∀ x ∈ p2, x.block < W.heap.size := by obtain ⟨m, hm⟩ := k2; exact DataW.trod_lt m _ _ _ hm
  obtain ⟨xs2, w2, z2⟩ : ∃ xs : List (ty 1), Rep W (· < W.heap.size) noIds v2 (.sl 1 xs) ∧ DSz Z0 d2 xs := by
    obtain ⟨fuel, hf⟩ := h2
    exact rep_in (c := 1) (by decide) Try.underlying31 (by kernel_rfl) (cells_i64 Try.underlying3) (hval 2 31 v2 rfl rfl) hf
  clear hA0 hval0
  have hb := of_decide_eq_true hk
  simp only [List.append_nil, Rows.uptoBulkAll] at hb
  have hz0 : xs0.length ≤ 1048576 := by have := bulkLenM z0; omega
  have ht0 : xs0.flatten.length ≤ 1048576 := by have := bulkTotM z0; omega
  have hz1 : xs1.length ≤ 1048576 := by have := bulkLenM z1; omega
  have hz2 : xs2.length ≤ 1048576 := by have := bulkLenM z2; omega
  refine (calls_of_holds wireMuch_ok Try.call7 (w := W) (vals := #[v0, v1, v2]) (args := [.sl 6 xs0, .sl 0 xs1, .sl 1 xs2]) rfl (fun j v hj => ?_) ⟨hz0, ht0, hz1, hz2, rfl⟩).mono fun e W' ⟨he, bel⟩ => ?_
  · rcases j with _ | _ | _ | j
    · simp at hj; subst hj; exact w0
    · simp at hj; subst hj; exact w1
    · simp at hj; subst hj; exact w2
    · simp at hj
  subst he
  exact ⟨_, rfl, _, _, _, [], _, [], hW', trodAll_mk1 (shut_bool Try.underlying4 _), (trodAll_cons_mk (Below.trod laidM (by kernel_rfl) (of_decide_eq_true (by kernel_rfl)) k0 bel lt0) (trodAll_cons_mk (Below.trod laidM (by kernel_rfl) (of_decide_eq_true (by kernel_rfl)) k1 bel lt1) (trodAll_cons_mk (Below.trod laidM (by kernel_rfl) (of_decide_eq_true (by kernel_rfl)) k2 bel lt2) trodAll_mk0))), rfl, bel.frame _, fun h => by cases h⟩

set_option maxRecDepth 100000 in
theorem wireMuchLifted (os : Os) (started : os.Started) (H : Type) (enc : TypeId × Value → H) (F : Stop.Interp) :
    ReturnsInHanded {} Try.checked os 7 .any ((Rows.OpenSpec.upto Rows.wireMuchSpec).pre6 enc Try.prog Try.f7 Rows.wireMuchUptoRow.domain false) (((Rows.OpenSpec.upto Rows.wireMuchSpec).at F).post enc Try.prog Try.f7 false true false false) := by
  refine returnsInHanded_of_cond (C := Try.checked) (s := Rows.OpenSpec.upto Rows.wireMuchSpec) (k := Rows.uptoSmall) rfl ownM started (by kernel_rfl) Try.func7
    (OpenSpec.witness (enc := enc) (C := Try.checked) (s := Rows.OpenSpec.upto Rows.wireMuchSpec) (k := Rows.uptoSmall) rfl false ⟨#[], #[.slice none 0 0, .slice none 0 0, .slice none 0 0], []⟩ 8 (by kernel_rfl) (by kernel_rfl) (by kernel_rfl)
      (x := ([.nil, .nil, .nil], [], [])) (by kernel_rfl) rfl (by kernel_rfl)) ?_
  intro W base args ds gs before hval hW _ hk _
  exact wireMuchContract H enc W base args ds gs before hval hW hk

theorem wireMuch_said : Rows.WireMuchUptoSaid :=
  OpenClaim.holds_of_cond 7 Try.f7 rfl rfl rfl rfl rfl rfl rfl ⟨rfl, rfl, rfl, rfl, rfl⟩ rfl rfl rfl rfl rfl (by kernel_rfl) Try.func7 (by kernel_rfl)
    (of_decide_eq_true (by kernel_rfl)) (by unfold Func.isWrapper; first | (rw [if_pos (by decide +kernel)]; kernel_rfl) | (rw [if_neg (by decide +kernel)]; exact ⟨rfl, rfl⟩))
    (fun os started H enc _ F => wireMuchLifted os started H enc F)
#print axioms wireMuch_said
end Go.Proofs.Ytkcnpemaocdnkaa


