import Derived.Test.YtpkfadgennejnaaLkT
namespace Go.Proofs.Ytpkfadgennejnaa
open Go Go.Eng Go.Rw Go.Lk Go.Proofs
set_option linter.unusedVariables false
set_option maxHeartbeats 2000000 in
theorem ofc_vc (b : List UInt8) (hb : b.length ≤ (1000000 : Nat)) (k : AV → List (Option Blk) → List Blk → Prop) (hk : (ansC b = none → k (AV.tup [AV.agg [AV.int IntKind.i64 (0 : Int), AV.int IntKind.i64 (0 : Int), AV.int IntKind.i64 (0 : Int), AV.nilsl], AV.int IntKind.i64 (8 : Int)]) [] []) ∧ ∀ (s c o : Int) (l : List Int) (n : Nat), ansC b = some (s, c, o, l) → l.length = n → n ≤ (8 : Nat) → k (AV.tup [AV.agg [AV.int IntKind.i64 s, AV.int IntKind.i64 c, AV.int IntKind.i64 o, AV.row (1 : Nat) (0 : Nat) (0 : Nat) n], AV.int IntKind.i64 (0 : Int)]) [] [Blk.row (1 : Nat) l]) :
  (
   ((0 : Int) ≤ (65535 : Int)) ∧
   ((65535 : Int) ≤ (9223372036854775807 : Int))) ∧
  (b.length ≤ (1000000 : Nat)) ∧
  ∀ (v_1 : Int),
  ∀ (r_2 : List UInt8),
  ∀ (bd_3 : Bool),
  (v_1 = oneV (65535 : Int) b) →
  (r_2 = oneR (65535 : Int) b) →
  (bd_3 = (false || oneB (65535 : Int) b)) →
  ((0 : Int) ≤ v_1 ∧ v_1 ≤ (65535 : Int)) →
  (r_2.length ≤ b.length) →
  (
   ((0 : Int) ≤ (1048576 : Int)) ∧
   ((1048576 : Int) ≤ (9223372036854775807 : Int))) ∧
  (r_2.length ≤ (1000000 : Nat)) ∧
  ∀ (v_9 : Int),
  ∀ (r_10 : List UInt8),
  ∀ (bd_11 : Bool),
  (v_9 = oneV (1048576 : Int) r_2) →
  (r_10 = oneR (1048576 : Int) r_2) →
  (bd_11 = (bd_3 || oneB (1048576 : Int) r_2)) →
  ((0 : Int) ≤ v_9 ∧ v_9 ≤ (1048576 : Int)) →
  (r_10.length ≤ r_2.length) →
  (
   ((0 : Int) ≤ (1048576 : Int)) ∧
   ((1048576 : Int) ≤ (9223372036854775807 : Int))) ∧
  (r_10.length ≤ (1000000 : Nat)) ∧
  ∀ (v_17 : Int),
  ∀ (r_18 : List UInt8),
  ∀ (bd_19 : Bool),
  (v_17 = oneV (1048576 : Int) r_10) →
  (r_18 = oneR (1048576 : Int) r_10) →
  (bd_19 = (bd_11 || oneB (1048576 : Int) r_10)) →
  ((0 : Int) ≤ v_17 ∧ v_17 ≤ (1048576 : Int)) →
  (r_18.length ≤ r_10.length) →
  (
   ((0 : Int) ≤ (8 : Int)) ∧
   ((8 : Int) ≤ (9223372036854775807 : Int))) ∧
  (r_18.length ≤ (1000000 : Nat)) ∧
  ∀ (v_25 : Int),
  ∀ (r_26 : List UInt8),
  ∀ (bd_27 : Bool),
  (v_25 = oneV (8 : Int) r_18) →
  (r_26 = oneR (8 : Int) r_18) →
  (bd_27 = (bd_19 || oneB (8 : Int) r_18)) →
  ((0 : Int) ≤ v_25 ∧ v_25 ≤ (8 : Int)) →
  (r_26.length ≤ r_18.length) →
  (
   ∃ (v : Nat × List UInt8 × Bool × Nat × List Int),
   (b = b) ∧
   (v_25 = nmb (65535 : Int) (1048576 : Int) (1048576 : Int) b) ∧
   ((0 : Int) = (↑v.fst : Int)) ∧
   ((0 : Int) = (0 : Int)) ∧
   ((0 : Int) = (0 : Int)) ∧
   ((0 : Int) = (0 : Int)) ∧
   (r_26 = v.snd.fst) ∧
   (bd_27 = v.snd.snd.fst) ∧
   (v_1 = oneV (65535 : Int) b) ∧
   (v_9 = oneV (1048576 : Int) (oneR (65535 : Int) b)) ∧
   (v_17 = oneV (1048576 : Int) (oneR (1048576 : Int) (oneR (65535 : Int) b))) ∧
   ((0 : Nat) = (0 : Nat)) ∧
   ((0 : Nat) = v.snd.snd.snd.fst) ∧
   ([] = v.snd.snd.snd.snd) ∧
   (
    ((↑v.fst : Int) ≤ nmb (65535 : Int) (1048576 : Int) (1048576 : Int) b) ∧
    (nmb (65535 : Int) (1048576 : Int) (1048576 : Int) b ≤ (8 : Int))) ∧
   (b.length ≤ (1000000 : Nat)) ∧
   (v.snd.fst.length ≤ b.length) ∧
   (v.snd.snd.snd.snd.length = v.snd.snd.snd.fst) ∧
   (v.snd.snd.snd.fst = v.fst) ∧
   (CIn (65535 : Int) (1048576 : Int) (1048576 : Int) (1048576 : Int) b v.fst v.snd.snd.fst v.snd.fst v.snd.snd.snd.snd)) ∧
  ∀ (v_33 : Nat × List UInt8 × Bool × Nat × List Int),
  (((↑v_33.fst : Int) ≤ nmb (65535 : Int) (1048576 : Int) (1048576 : Int) b ∧ nmb (65535 : Int) (1048576 : Int) (1048576 : Int) b ≤ (8 : Int)) ∧ b.length ≤ (1000000 : Nat) ∧ v_33.snd.fst.length ≤ b.length ∧ v_33.snd.snd.snd.snd.length = v_33.snd.snd.snd.fst ∧ v_33.snd.snd.snd.fst = v_33.fst ∧ CIn (65535 : Int) (1048576 : Int) (1048576 : Int) (1048576 : Int) b v_33.fst v_33.snd.snd.fst v_33.snd.fst v_33.snd.snd.snd.snd) →
  br (decide ((↑v_33.fst : Int) < nmb (65535 : Int) (1048576 : Int) (1048576 : Int) b))
   ((
     (
      (
       ((0 : Int) ≤ (1048576 : Int)) ∧
       ((1048576 : Int) ≤ (9223372036854775807 : Int))) ∧
      (v_33.snd.fst.length ≤ (1000000 : Nat)) ∧
      ∀ (v_35 : Int),
      ∀ (r_36 : List UInt8),
      ∀ (bd_37 : Bool),
      (v_35 = oneV (1048576 : Int) v_33.snd.fst) →
      (r_36 = oneR (1048576 : Int) v_33.snd.fst) →
      (bd_37 = (v_33.snd.snd.fst || oneB (1048576 : Int) v_33.snd.fst)) →
      ((0 : Int) ≤ v_35 ∧ v_35 ≤ (1048576 : Int)) →
      (r_36.length ≤ v_33.snd.fst.length) →
      ((v_33.snd.snd.snd.fst + (1 : Nat)) * (8 : Nat) ≤ (140737488355328 : Nat)) ∧
      ∀ (z43 : List Int),
      (z43 = List.take v_33.snd.snd.snd.fst v_33.snd.snd.snd.snd ++ List.take (1 : Nat) (List.drop (0 : Nat) [v_35])) →
      ∀ (n45 : Int),
      (n45 = IntKind.i64.wrap ((↑v_33.fst : Int) + (1 : Int))) →
      ((-9223372036854775808 : Int) ≤ n45 ∧ n45 ≤ (9223372036854775807 : Int)) →
      ∃ (v' : Nat × List UInt8 × Bool × Nat × List Int),
      (b = b) ∧
      (nmb (65535 : Int) (1048576 : Int) (1048576 : Int) b = nmb (65535 : Int) (1048576 : Int) (1048576 : Int) b) ∧
      (n45 = (↑v'.fst : Int)) ∧
      ((0 : Int) = (0 : Int)) ∧
      ((0 : Int) = (0 : Int)) ∧
      ((0 : Int) = (0 : Int)) ∧
      (r_36 = v'.snd.fst) ∧
      (bd_37 = v'.snd.snd.fst) ∧
      (oneV (65535 : Int) b = oneV (65535 : Int) b) ∧
      (oneV (1048576 : Int) (oneR (65535 : Int) b) = oneV (1048576 : Int) (oneR (65535 : Int) b)) ∧
      (oneV (1048576 : Int) (oneR (1048576 : Int) (oneR (65535 : Int) b)) = oneV (1048576 : Int) (oneR (1048576 : Int) (oneR (65535 : Int) b))) ∧
      ((0 : Nat) = (0 : Nat)) ∧
      (v_33.snd.snd.snd.fst + (1 : Nat) = v'.snd.snd.snd.fst) ∧
      (z43 = v'.snd.snd.snd.snd) ∧
      (
       (
        ((↑v'.fst : Int) ≤ nmb (65535 : Int) (1048576 : Int) (1048576 : Int) b) ∧
        (nmb (65535 : Int) (1048576 : Int) (1048576 : Int) b ≤ (8 : Int))) ∧
       (b.length ≤ (1000000 : Nat)) ∧
       (v'.snd.fst.length ≤ b.length) ∧
       (v'.snd.snd.snd.snd.length = v'.snd.snd.snd.fst) ∧
       (v'.snd.snd.snd.fst = v'.fst) ∧
       (CIn (65535 : Int) (1048576 : Int) (1048576 : Int) (1048576 : Int) b v'.fst v'.snd.snd.fst v'.snd.fst v'.snd.snd.snd.snd)) ∧
      ((nmb (65535 : Int) (1048576 : Int) (1048576 : Int) b - (↑v'.fst : Int)).toNat < (nmb (65535 : Int) (1048576 : Int) (1048576 : Int) b - (↑v_33.fst : Int)).toNat)) ∧
     (
      ((0 : Int) ≤ (1048576 : Int)) ∧
      ((1048576 : Int) ≤ (9223372036854775807 : Int))) ∧
     (v_33.snd.fst.length ≤ (1000000 : Nat)) ∧
     ∀ (v_48 : Int),
     ∀ (r_49 : List UInt8),
     ∀ (bd_50 : Bool),
     (v_48 = oneV (1048576 : Int) v_33.snd.fst) →
     (r_49 = oneR (1048576 : Int) v_33.snd.fst) →
     (bd_50 = (v_33.snd.snd.fst || oneB (1048576 : Int) v_33.snd.fst)) →
     ((0 : Int) ≤ v_48 ∧ v_48 ≤ (1048576 : Int)) →
     (r_49.length ≤ v_33.snd.fst.length) →
     ((v_33.snd.snd.snd.fst + (1 : Nat)) * (8 : Nat) ≤ (140737488355328 : Nat)) ∧
     ∀ (z56 : List Int),
     (z56 = List.take v_33.snd.snd.snd.fst v_33.snd.snd.snd.snd ++ List.take (1 : Nat) (List.drop (0 : Nat) [v_48])) →
     ∀ (n58 : Int),
     (n58 = IntKind.i64.wrap ((↑v_33.fst : Int) + (1 : Int))) →
     ((-9223372036854775808 : Int) ≤ n58 ∧ n58 ≤ (9223372036854775807 : Int)) →
     ∃ (v' : Nat × List UInt8 × Bool × Nat × List Int),
     (b = b) ∧
     (nmb (65535 : Int) (1048576 : Int) (1048576 : Int) b = nmb (65535 : Int) (1048576 : Int) (1048576 : Int) b) ∧
     (n58 = (↑v'.fst : Int)) ∧
     ((0 : Int) = (0 : Int)) ∧
     ((0 : Int) = (0 : Int)) ∧
     ((0 : Int) = (0 : Int)) ∧
     (r_49 = v'.snd.fst) ∧
     (bd_50 = v'.snd.snd.fst) ∧
     (oneV (65535 : Int) b = oneV (65535 : Int) b) ∧
     (oneV (1048576 : Int) (oneR (65535 : Int) b) = oneV (1048576 : Int) (oneR (65535 : Int) b)) ∧
     (oneV (1048576 : Int) (oneR (1048576 : Int) (oneR (65535 : Int) b)) = oneV (1048576 : Int) (oneR (1048576 : Int) (oneR (65535 : Int) b))) ∧
     ((0 : Nat) = (0 : Nat)) ∧
     (v_33.snd.snd.snd.fst + (1 : Nat) = v'.snd.snd.snd.fst) ∧
     (z56 = v'.snd.snd.snd.snd) ∧
     (
      (
       ((↑v'.fst : Int) ≤ nmb (65535 : Int) (1048576 : Int) (1048576 : Int) b) ∧
       (nmb (65535 : Int) (1048576 : Int) (1048576 : Int) b ≤ (8 : Int))) ∧
      (b.length ≤ (1000000 : Nat)) ∧
      (v'.snd.fst.length ≤ b.length) ∧
      (v'.snd.snd.snd.snd.length = v'.snd.snd.snd.fst) ∧
      (v'.snd.snd.snd.fst = v'.fst) ∧
      (CIn (65535 : Int) (1048576 : Int) (1048576 : Int) (1048576 : Int) b v'.fst v'.snd.snd.fst v'.snd.fst v'.snd.snd.snd.snd)) ∧
     ((nmb (65535 : Int) (1048576 : Int) (1048576 : Int) b - (↑v'.fst : Int)).toNat < (nmb (65535 : Int) (1048576 : Int) (1048576 : Int) b - (↑v_33.fst : Int)).toNat)) ∧
    (
     ((0 : Int) ≤ (1048576 : Int)) ∧
     ((1048576 : Int) ≤ (9223372036854775807 : Int))) ∧
    (v_33.snd.fst.length ≤ (1000000 : Nat)) ∧
    ∀ (v_61 : Int),
    ∀ (r_62 : List UInt8),
    ∀ (bd_63 : Bool),
    (v_61 = oneV (1048576 : Int) v_33.snd.fst) →
    (r_62 = oneR (1048576 : Int) v_33.snd.fst) →
    (bd_63 = (v_33.snd.snd.fst || oneB (1048576 : Int) v_33.snd.fst)) →
    ((0 : Int) ≤ v_61 ∧ v_61 ≤ (1048576 : Int)) →
    (r_62.length ≤ v_33.snd.fst.length) →
    ((v_33.snd.snd.snd.fst + (1 : Nat)) * (8 : Nat) ≤ (140737488355328 : Nat)) ∧
    ∀ (z69 : List Int),
    (z69 = List.take v_33.snd.snd.snd.fst v_33.snd.snd.snd.snd ++ List.take (1 : Nat) (List.drop (0 : Nat) [v_61])) →
    ∀ (n71 : Int),
    (n71 = IntKind.i64.wrap ((↑v_33.fst : Int) + (1 : Int))) →
    ((-9223372036854775808 : Int) ≤ n71 ∧ n71 ≤ (9223372036854775807 : Int)) →
    ∃ (v' : Nat × List UInt8 × Bool × Nat × List Int),
    (b = b) ∧
    (nmb (65535 : Int) (1048576 : Int) (1048576 : Int) b = nmb (65535 : Int) (1048576 : Int) (1048576 : Int) b) ∧
    (n71 = (↑v'.fst : Int)) ∧
    ((0 : Int) = (0 : Int)) ∧
    ((0 : Int) = (0 : Int)) ∧
    ((0 : Int) = (0 : Int)) ∧
    (r_62 = v'.snd.fst) ∧
    (bd_63 = v'.snd.snd.fst) ∧
    (oneV (65535 : Int) b = oneV (65535 : Int) b) ∧
    (oneV (1048576 : Int) (oneR (65535 : Int) b) = oneV (1048576 : Int) (oneR (65535 : Int) b)) ∧
    (oneV (1048576 : Int) (oneR (1048576 : Int) (oneR (65535 : Int) b)) = oneV (1048576 : Int) (oneR (1048576 : Int) (oneR (65535 : Int) b))) ∧
    ((0 : Nat) = (0 : Nat)) ∧
    (v_33.snd.snd.snd.fst + (1 : Nat) = v'.snd.snd.snd.fst) ∧
    (z69 = v'.snd.snd.snd.snd) ∧
    (
     (
      ((↑v'.fst : Int) ≤ nmb (65535 : Int) (1048576 : Int) (1048576 : Int) b) ∧
      (nmb (65535 : Int) (1048576 : Int) (1048576 : Int) b ≤ (8 : Int))) ∧
     (b.length ≤ (1000000 : Nat)) ∧
     (v'.snd.fst.length ≤ b.length) ∧
     (v'.snd.snd.snd.snd.length = v'.snd.snd.snd.fst) ∧
     (v'.snd.snd.snd.fst = v'.fst) ∧
     (CIn (65535 : Int) (1048576 : Int) (1048576 : Int) (1048576 : Int) b v'.fst v'.snd.snd.fst v'.snd.fst v'.snd.snd.snd.snd)) ∧
    ((nmb (65535 : Int) (1048576 : Int) (1048576 : Int) b - (↑v'.fst : Int)).toNat < (nmb (65535 : Int) (1048576 : Int) (1048576 : Int) b - (↑v_33.fst : Int)).toNat))
   (((List.take v_33.snd.snd.snd.fst (List.drop (0 : Nat) v_33.snd.snd.snd.snd)).length ≤ (1000000 : Nat)) ∧
    ∀ (e_74 : Int),
    ∀ (ys_75 : List UInt8),
    ∀ (n_76 : Nat),
    (e_74 = cE (oneV (65535 : Int) b) (oneV (1048576 : Int) (oneR (65535 : Int) b)) (oneV (1048576 : Int) (oneR (1048576 : Int) (oneR (65535 : Int) b))) (List.take v_33.snd.snd.snd.fst (List.drop (0 : Nat) v_33.snd.snd.snd.snd))) →
    (ys_75 = cO (oneV (65535 : Int) b) (oneV (1048576 : Int) (oneR (65535 : Int) b)) (oneV (1048576 : Int) (oneR (1048576 : Int) (oneR (65535 : Int) b))) (List.take v_33.snd.snd.snd.fst (List.drop (0 : Nat) v_33.snd.snd.snd.snd))) →
    (ys_75.length = n_76) →
    br (bif v_33.snd.snd.fst then true else e_74 != (0 : Int))
     ((true = true) ∧
      (k (AV.tup [AV.agg [AV.int IntKind.i64 (0 : Int), AV.int IntKind.i64 (0 : Int), AV.int IntKind.i64 (0 : Int), AV.nilsl], AV.int IntKind.i64 (8 : Int)]) [] []))
     (∀ (r_80 : Bool),
      (r_80 = true ↔ List.take n_76 (List.drop (0 : Nat) ys_75) = b) →
      br (bif false then true else !r_80)
       ((k (AV.tup [AV.agg [AV.int IntKind.i64 (0 : Int), AV.int IntKind.i64 (0 : Int), AV.int IntKind.i64 (0 : Int), AV.nilsl], AV.int IntKind.i64 (8 : Int)]) [] []))
       ((k (AV.tup [AV.agg [AV.int IntKind.i64 (oneV (65535 : Int) b), AV.int IntKind.i64 (oneV (1048576 : Int) (oneR (65535 : Int) b)), AV.int IntKind.i64 (oneV (1048576 : Int) (oneR (1048576 : Int) (oneR (65535 : Int) b))), AV.row (1 : Nat) (0 : Nat) (0 : Nat) v_33.snd.snd.snd.fst], AV.int IntKind.i64 (0 : Int)]) [] [Blk.row (1 : Nat) v_33.snd.snd.snd.snd])))) := by
  refine ⟨by first | omega | (dsimp only; omega), ?_⟩ -- (0 : Int) ≤ (65535 : Int) ∧ (65535 : Int) ≤ (9223372036854775807 : Int)
  refine ⟨by assumption, ?_⟩ -- b.length ≤ (1000000 : Nat)
  intro v_1
  intro r_2
  intro bd_3
  intro h1 -- v_1 = oneV (65535 : Int) b
  intro h2 -- r_2 = oneR (65535 : Int) b
  intro h3 -- bd_3 = (false || oneB (65535 : Int) b)
  simp at h3 -- bd_3 = oneB (65535 : Int) b
  intro ⟨a4, b4⟩ -- (0 : Int) ≤ v_1 ∧ v_1 ≤ (65535 : Int)
  intro h5 -- r_2.length ≤ b.length
  refine ⟨by first | omega | (dsimp only; omega), ?_⟩ -- (0 : Int) ≤ (1048576 : Int) ∧ (1048576 : Int) ≤ (9223372036854775807 : Int)
  refine ⟨by first | omega | (dsimp only; omega), ?_⟩ -- r_2.length ≤ (1000000 : Nat)
  intro v_9
  intro r_10
  intro bd_11
  intro h6 -- v_9 = oneV (1048576 : Int) r_2
  intro h7 -- r_10 = oneR (1048576 : Int) r_2
  intro h8 -- bd_11 = (bd_3 || oneB (1048576 : Int) r_2)
  intro ⟨a9, b9⟩ -- (0 : Int) ≤ v_9 ∧ v_9 ≤ (1048576 : Int)
  intro h10 -- r_10.length ≤ r_2.length
  refine ⟨by first | omega | (dsimp only; omega), ?_⟩ -- (0 : Int) ≤ (1048576 : Int) ∧ (1048576 : Int) ≤ (9223372036854775807 : Int)
  refine ⟨by first | omega | (dsimp only; omega), ?_⟩ -- r_10.length ≤ (1000000 : Nat)
  intro v_17
  intro r_18
  intro bd_19
  intro h11 -- v_17 = oneV (1048576 : Int) r_10
  intro h12 -- r_18 = oneR (1048576 : Int) r_10
  intro h13 -- bd_19 = (bd_11 || oneB (1048576 : Int) r_10)
  intro ⟨a14, b14⟩ -- (0 : Int) ≤ v_17 ∧ v_17 ≤ (1048576 : Int)
  intro h15 -- r_18.length ≤ r_10.length
  refine ⟨by first | omega | (dsimp only; omega), ?_⟩ -- (0 : Int) ≤ (8 : Int) ∧ (8 : Int) ≤ (9223372036854775807 : Int)
  refine ⟨by first | omega | (dsimp only; omega), ?_⟩ -- r_18.length ≤ (1000000 : Nat)
  intro v_25
  intro r_26
  intro bd_27
  intro h16 -- v_25 = oneV (8 : Int) r_18
  intro h17 -- r_26 = oneR (8 : Int) r_18
  intro h18 -- bd_27 = (bd_19 || oneB (8 : Int) r_18)
  intro ⟨a19, b19⟩ -- (0 : Int) ≤ v_25 ∧ v_25 ≤ (8 : Int)
  intro h20 -- r_26.length ≤ r_18.length
  refine ⟨?_, ?_⟩
  · -- left
    refine ⟨((0 : Nat), r_26, bd_27, (0 : Nat), []), ?_⟩
    refine ⟨by first | with_reducible rfl | rfl, ?_⟩ -- b = b
    have h21 : v_25 = nmb (65535 : Int) (1048576 : Int) (1048576 : Int) b := by
      rw [h16, h12, h7, h2]; rfl
    refine ⟨h21, ?_⟩
    refine ⟨by show (0 : Int) = (↑(0 : Nat) : Int); omega, ?_⟩ -- (0 : Int) = (↑(0 : Nat) : Int)
    refine ⟨by first | with_reducible rfl | rfl, ?_⟩ -- (0 : Int) = (0 : Int)
    refine ⟨by first | with_reducible rfl | rfl, ?_⟩ -- (0 : Int) = (0 : Int)
    refine ⟨by first | with_reducible rfl | rfl, ?_⟩ -- (0 : Int) = (0 : Int)
    refine ⟨by first | with_reducible rfl | rfl, ?_⟩ -- r_26 = r_26
    refine ⟨by first | with_reducible rfl | rfl, ?_⟩ -- bd_27 = bd_27
    refine ⟨by show v_1 = oneV (65535 : Int) b; assumption, ?_⟩ -- v_1 = oneV (65535 : Int) b
    have h22 : v_9 = oneV (1048576 : Int) (oneR (65535 : Int) b) := by
      rw [h6, h2]
    refine ⟨h22, ?_⟩
    have h23 : v_17 = oneV (1048576 : Int) (oneR (1048576 : Int) (oneR (65535 : Int) b)) := by
      rw [h11, h7, h2]
    refine ⟨h23, ?_⟩
    refine ⟨by first | with_reducible rfl | rfl, ?_⟩ -- (0 : Nat) = (0 : Nat)
    refine ⟨by first | with_reducible rfl | rfl, ?_⟩ -- (0 : Nat) = (0 : Nat)
    refine ⟨by first | with_reducible rfl | rfl, ?_⟩ -- [] = []
    refine ⟨by first | omega | (dsimp only; omega), ?_⟩ -- (↑(0 : Nat) : Int) ≤ nmb (65535 : Int) (1048576 : Int) (1048576 : Int) b ∧ nmb (65535 : Int) (1048576 : Int) (1048576 : Int) b ≤ (8 : Int)
    refine ⟨by show b.length ≤ (1000000 : Nat); assumption, ?_⟩ -- b.length ≤ (1000000 : Nat)
    refine ⟨by show r_26.length ≤ b.length; omega, ?_⟩ -- r_26.length ≤ b.length
    refine ⟨by first | with_reducible rfl | rfl, ?_⟩ -- (0 : Nat) = (0 : Nat)
    refine ⟨by first | with_reducible rfl | rfl, ?_⟩ -- (0 : Nat) = (0 : Nat)
    -- CIn (65535 : Int) (1048576 : Int) (1048576 : Int) (1048576 : Int) b (0 : Nat) bd_27 r_26 []
    exact cin_0 (by rw [h18, h13, h8, h3, h12, h7, h2]) (by rw [h17, h12, h7, h2])
  intro v_33
  intro h24 -- ((↑v_33.fst : Int) ≤ nmb (65535 : Int) (1048576 : Int) (1048576 : Int) b ∧ nmb (65535 : Int) (1048576 : Int) (1048576 : Int) b ≤ (8 : Int)) ∧ b.length ≤ (1000000 : Nat) ∧ v_33.snd.fst.length ≤ b.length ∧ v_33.snd.snd.snd.snd.length = v_33.snd.snd.snd.fst ∧ v_33.snd.snd.snd.fst = v_33.fst ∧ CIn (65535 : Int) (1048576 : Int) (1048576 : Int) (1048576 : Int) b v_33.fst v_33.snd.snd.fst v_33.snd.fst v_33.snd.snd.snd.snd
  refine brd (fun c25 => ?_) (fun c25 => ?_) -- decide ((↑v_33.fst : Int) < nmb (65535 : Int) (1048576 : Int) (1048576 : Int) b)
  · -- yes
    refine ⟨?_, ?_⟩
    · -- left
      refine ⟨?_, ?_⟩
      · -- left
        refine ⟨by first | omega | (dsimp only; omega), ?_⟩ -- (0 : Int) ≤ (1048576 : Int) ∧ (1048576 : Int) ≤ (9223372036854775807 : Int)
        refine ⟨by first | omega | (dsimp only; omega), ?_⟩ -- v_33.snd.fst.length ≤ (1000000 : Nat)
        intro v_35
        intro r_36
        intro bd_37
        intro h26 -- v_35 = oneV (1048576 : Int) v_33.snd.fst
        intro h27 -- r_36 = oneR (1048576 : Int) v_33.snd.fst
        intro h28 -- bd_37 = (v_33.snd.snd.fst || oneB (1048576 : Int) v_33.snd.fst)
        intro ⟨a29, b29⟩ -- (0 : Int) ≤ v_35 ∧ v_35 ≤ (1048576 : Int)
        intro h30 -- r_36.length ≤ v_33.snd.fst.length
        refine ⟨by first | omega | (dsimp only; omega), ?_⟩ -- (v_33.snd.snd.snd.fst + (1 : Nat)) * (8 : Nat) ≤ (140737488355328 : Nat)
        intro z43
        intro qz43 -- z43 = List.take v_33.snd.snd.snd.fst v_33.snd.snd.snd.snd ++ List.take (1 : Nat) (List.drop (0 : Nat) [v_35])
        intro n45
        intro q45 -- n45 = IntKind.i64.wrap ((↑v_33.fst : Int) + (1 : Int))
        rw [IntKind.wrap_i64] at q45
        intro ⟨l45, u45⟩ -- (-9223372036854775808 : Int) ≤ n45 ∧ n45 ≤ (9223372036854775807 : Int)
        refine ⟨(v_33.snd.snd.snd.fst + (1 : Nat), r_36, bd_37, v_33.snd.snd.snd.fst + (1 : Nat), z43), ?_⟩
        refine ⟨by first | with_reducible rfl | rfl, ?_⟩ -- b = b
        refine ⟨by first | with_reducible rfl | rfl, ?_⟩ -- nmb (65535 : Int) (1048576 : Int) (1048576 : Int) b = nmb (65535 : Int) (1048576 : Int) (1048576 : Int) b
        refine ⟨by show n45 = (↑(v_33.snd.snd.snd.fst + (1 : Nat)) : Int); omega, ?_⟩ -- n45 = (↑(v_33.snd.snd.snd.fst + (1 : Nat)) : Int)
        refine ⟨by first | with_reducible rfl | rfl, ?_⟩ -- (0 : Int) = (0 : Int)
        refine ⟨by first | with_reducible rfl | rfl, ?_⟩ -- (0 : Int) = (0 : Int)
        refine ⟨by first | with_reducible rfl | rfl, ?_⟩ -- (0 : Int) = (0 : Int)
        refine ⟨by first | with_reducible rfl | rfl, ?_⟩ -- r_36 = r_36
        refine ⟨by first | with_reducible rfl | rfl, ?_⟩ -- bd_37 = bd_37
        refine ⟨by first | with_reducible rfl | rfl, ?_⟩ -- oneV (65535 : Int) b = oneV (65535 : Int) b
        refine ⟨by first | with_reducible rfl | rfl, ?_⟩ -- oneV (1048576 : Int) (oneR (65535 : Int) b) = oneV (1048576 : Int) (oneR (65535 : Int) b)
        refine ⟨by first | with_reducible rfl | rfl, ?_⟩ -- oneV (1048576 : Int) (oneR (1048576 : Int) (oneR (65535 : Int) b)) = oneV (1048576 : Int) (oneR (1048576 : Int) (oneR (65535 : Int) b))
        refine ⟨by first | with_reducible rfl | rfl, ?_⟩ -- (0 : Nat) = (0 : Nat)
        refine ⟨by first | with_reducible rfl | rfl, ?_⟩ -- v_33.snd.snd.snd.fst + (1 : Nat) = v_33.snd.snd.snd.fst + (1 : Nat)
        refine ⟨by first | with_reducible rfl | rfl, ?_⟩ -- z43 = z43
        refine ⟨?_, ?_⟩
        · -- left
          refine ⟨by first | omega | (dsimp only; omega), ?_⟩ -- (↑(v_33.snd.snd.snd.fst + (1 : Nat)) : Int) ≤ nmb (65535 : Int) (1048576 : Int) (1048576 : Int) b ∧ nmb (65535 : Int) (1048576 : Int) (1048576 : Int) b ≤ (8 : Int)
          refine ⟨by show b.length ≤ (1000000 : Nat); assumption, ?_⟩ -- b.length ≤ (1000000 : Nat)
          refine ⟨by show r_36.length ≤ b.length; omega, ?_⟩ -- r_36.length ≤ b.length
          have h31 : z43.length = v_33.snd.snd.snd.fst + (1 : Nat) := by
            rw [qz43]; simp; omega
          refine ⟨h31, ?_⟩
          refine ⟨by first | with_reducible rfl | rfl, ?_⟩ -- v_33.snd.snd.snd.fst + (1 : Nat) = v_33.snd.snd.snd.fst + (1 : Nat)
          -- CIn (65535 : Int) (1048576 : Int) (1048576 : Int) (1048576 : Int) b (v_33.snd.snd.snd.fst + (1 : Nat)) bd_37 r_36 z43
          exact cin_step h24.2.2.2.2.2 (by omega) (by omega) h28 h27 (by rw [qz43, h26, List.take_of_length_le (by omega)]; rfl)
        exact by show (nmb (65535 : Int) (1048576 : Int) (1048576 : Int) b - (↑(v_33.snd.snd.snd.fst + (1 : Nat)) : Int)).toNat < (nmb (65535 : Int) (1048576 : Int) (1048576 : Int) b - (↑v_33.fst : Int)).toNat; omega -- (nmb (65535 : Int) (1048576 : Int) (1048576 : Int) b - (↑(v_33.snd.snd.snd.fst + (1 : Nat)) : Int)).toNat < (nmb (65535 : Int) (1048576 : Int) (1048576 : Int) b - (↑v_33.fst : Int)).toNat
      refine ⟨by first | omega | (dsimp only; omega), ?_⟩ -- (0 : Int) ≤ (1048576 : Int) ∧ (1048576 : Int) ≤ (9223372036854775807 : Int)
      refine ⟨by first | omega | (dsimp only; omega), ?_⟩ -- v_33.snd.fst.length ≤ (1000000 : Nat)
      intro v_48
      intro r_49
      intro bd_50
      intro h32 -- v_48 = oneV (1048576 : Int) v_33.snd.fst
      intro h33 -- r_49 = oneR (1048576 : Int) v_33.snd.fst
      intro h34 -- bd_50 = (v_33.snd.snd.fst || oneB (1048576 : Int) v_33.snd.fst)
      intro ⟨a35, b35⟩ -- (0 : Int) ≤ v_48 ∧ v_48 ≤ (1048576 : Int)
      intro h36 -- r_49.length ≤ v_33.snd.fst.length
      refine ⟨by first | omega | (dsimp only; omega), ?_⟩ -- (v_33.snd.snd.snd.fst + (1 : Nat)) * (8 : Nat) ≤ (140737488355328 : Nat)
      intro z56
      intro qz56 -- z56 = List.take v_33.snd.snd.snd.fst v_33.snd.snd.snd.snd ++ List.take (1 : Nat) (List.drop (0 : Nat) [v_48])
      intro n58
      intro q58 -- n58 = IntKind.i64.wrap ((↑v_33.fst : Int) + (1 : Int))
      rw [IntKind.wrap_i64] at q58
      intro ⟨l58, u58⟩ -- (-9223372036854775808 : Int) ≤ n58 ∧ n58 ≤ (9223372036854775807 : Int)
      refine ⟨(v_33.snd.snd.snd.fst + (1 : Nat), r_49, bd_50, v_33.snd.snd.snd.fst + (1 : Nat), z56), ?_⟩
      refine ⟨by first | with_reducible rfl | rfl, ?_⟩ -- b = b
      refine ⟨by first | with_reducible rfl | rfl, ?_⟩ -- nmb (65535 : Int) (1048576 : Int) (1048576 : Int) b = nmb (65535 : Int) (1048576 : Int) (1048576 : Int) b
      refine ⟨by show n58 = (↑(v_33.snd.snd.snd.fst + (1 : Nat)) : Int); omega, ?_⟩ -- n58 = (↑(v_33.snd.snd.snd.fst + (1 : Nat)) : Int)
      refine ⟨by first | with_reducible rfl | rfl, ?_⟩ -- (0 : Int) = (0 : Int)
      refine ⟨by first | with_reducible rfl | rfl, ?_⟩ -- (0 : Int) = (0 : Int)
      refine ⟨by first | with_reducible rfl | rfl, ?_⟩ -- (0 : Int) = (0 : Int)
      refine ⟨by first | with_reducible rfl | rfl, ?_⟩ -- r_49 = r_49
      refine ⟨by first | with_reducible rfl | rfl, ?_⟩ -- bd_50 = bd_50
      refine ⟨by first | with_reducible rfl | rfl, ?_⟩ -- oneV (65535 : Int) b = oneV (65535 : Int) b
      refine ⟨by first | with_reducible rfl | rfl, ?_⟩ -- oneV (1048576 : Int) (oneR (65535 : Int) b) = oneV (1048576 : Int) (oneR (65535 : Int) b)
      refine ⟨by first | with_reducible rfl | rfl, ?_⟩ -- oneV (1048576 : Int) (oneR (1048576 : Int) (oneR (65535 : Int) b)) = oneV (1048576 : Int) (oneR (1048576 : Int) (oneR (65535 : Int) b))
      refine ⟨by first | with_reducible rfl | rfl, ?_⟩ -- (0 : Nat) = (0 : Nat)
      refine ⟨by first | with_reducible rfl | rfl, ?_⟩ -- v_33.snd.snd.snd.fst + (1 : Nat) = v_33.snd.snd.snd.fst + (1 : Nat)
      refine ⟨by first | with_reducible rfl | rfl, ?_⟩ -- z56 = z56
      refine ⟨?_, ?_⟩
      · -- left
        refine ⟨by first | omega | (dsimp only; omega), ?_⟩ -- (↑(v_33.snd.snd.snd.fst + (1 : Nat)) : Int) ≤ nmb (65535 : Int) (1048576 : Int) (1048576 : Int) b ∧ nmb (65535 : Int) (1048576 : Int) (1048576 : Int) b ≤ (8 : Int)
        refine ⟨by show b.length ≤ (1000000 : Nat); assumption, ?_⟩ -- b.length ≤ (1000000 : Nat)
        refine ⟨by show r_49.length ≤ b.length; omega, ?_⟩ -- r_49.length ≤ b.length
        have h37 : z56.length = v_33.snd.snd.snd.fst + (1 : Nat) := by
          rw [qz56]; simp; omega
        refine ⟨h37, ?_⟩
        refine ⟨by first | with_reducible rfl | rfl, ?_⟩ -- v_33.snd.snd.snd.fst + (1 : Nat) = v_33.snd.snd.snd.fst + (1 : Nat)
        -- CIn (65535 : Int) (1048576 : Int) (1048576 : Int) (1048576 : Int) b (v_33.snd.snd.snd.fst + (1 : Nat)) bd_50 r_49 z56
        exact cin_step h24.2.2.2.2.2 (by omega) (by omega) h34 h33 (by rw [qz56, h32, List.take_of_length_le (by omega)]; rfl)
      exact by show (nmb (65535 : Int) (1048576 : Int) (1048576 : Int) b - (↑(v_33.snd.snd.snd.fst + (1 : Nat)) : Int)).toNat < (nmb (65535 : Int) (1048576 : Int) (1048576 : Int) b - (↑v_33.fst : Int)).toNat; omega -- (nmb (65535 : Int) (1048576 : Int) (1048576 : Int) b - (↑(v_33.snd.snd.snd.fst + (1 : Nat)) : Int)).toNat < (nmb (65535 : Int) (1048576 : Int) (1048576 : Int) b - (↑v_33.fst : Int)).toNat
    refine ⟨by first | omega | (dsimp only; omega), ?_⟩ -- (0 : Int) ≤ (1048576 : Int) ∧ (1048576 : Int) ≤ (9223372036854775807 : Int)
    refine ⟨by first | omega | (dsimp only; omega), ?_⟩ -- v_33.snd.fst.length ≤ (1000000 : Nat)
    intro v_61
    intro r_62
    intro bd_63
    intro h38 -- v_61 = oneV (1048576 : Int) v_33.snd.fst
    intro h39 -- r_62 = oneR (1048576 : Int) v_33.snd.fst
    intro h40 -- bd_63 = (v_33.snd.snd.fst || oneB (1048576 : Int) v_33.snd.fst)
    intro ⟨a41, b41⟩ -- (0 : Int) ≤ v_61 ∧ v_61 ≤ (1048576 : Int)
    intro h42 -- r_62.length ≤ v_33.snd.fst.length
    refine ⟨by first | omega | (dsimp only; omega), ?_⟩ -- (v_33.snd.snd.snd.fst + (1 : Nat)) * (8 : Nat) ≤ (140737488355328 : Nat)
    intro z69
    intro qz69 -- z69 = List.take v_33.snd.snd.snd.fst v_33.snd.snd.snd.snd ++ List.take (1 : Nat) (List.drop (0 : Nat) [v_61])
    intro n71
    intro q71 -- n71 = IntKind.i64.wrap ((↑v_33.fst : Int) + (1 : Int))
    rw [IntKind.wrap_i64] at q71
    intro ⟨l71, u71⟩ -- (-9223372036854775808 : Int) ≤ n71 ∧ n71 ≤ (9223372036854775807 : Int)
    refine ⟨(v_33.snd.snd.snd.fst + (1 : Nat), r_62, bd_63, v_33.snd.snd.snd.fst + (1 : Nat), z69), ?_⟩
    refine ⟨by first | with_reducible rfl | rfl, ?_⟩ -- b = b
    refine ⟨by first | with_reducible rfl | rfl, ?_⟩ -- nmb (65535 : Int) (1048576 : Int) (1048576 : Int) b = nmb (65535 : Int) (1048576 : Int) (1048576 : Int) b
    refine ⟨by show n71 = (↑(v_33.snd.snd.snd.fst + (1 : Nat)) : Int); omega, ?_⟩ -- n71 = (↑(v_33.snd.snd.snd.fst + (1 : Nat)) : Int)
    refine ⟨by first | with_reducible rfl | rfl, ?_⟩ -- (0 : Int) = (0 : Int)
    refine ⟨by first | with_reducible rfl | rfl, ?_⟩ -- (0 : Int) = (0 : Int)
    refine ⟨by first | with_reducible rfl | rfl, ?_⟩ -- (0 : Int) = (0 : Int)
    refine ⟨by first | with_reducible rfl | rfl, ?_⟩ -- r_62 = r_62
    refine ⟨by first | with_reducible rfl | rfl, ?_⟩ -- bd_63 = bd_63
    refine ⟨by first | with_reducible rfl | rfl, ?_⟩ -- oneV (65535 : Int) b = oneV (65535 : Int) b
    refine ⟨by first | with_reducible rfl | rfl, ?_⟩ -- oneV (1048576 : Int) (oneR (65535 : Int) b) = oneV (1048576 : Int) (oneR (65535 : Int) b)
    refine ⟨by first | with_reducible rfl | rfl, ?_⟩ -- oneV (1048576 : Int) (oneR (1048576 : Int) (oneR (65535 : Int) b)) = oneV (1048576 : Int) (oneR (1048576 : Int) (oneR (65535 : Int) b))
    refine ⟨by first | with_reducible rfl | rfl, ?_⟩ -- (0 : Nat) = (0 : Nat)
    refine ⟨by first | with_reducible rfl | rfl, ?_⟩ -- v_33.snd.snd.snd.fst + (1 : Nat) = v_33.snd.snd.snd.fst + (1 : Nat)
    refine ⟨by first | with_reducible rfl | rfl, ?_⟩ -- z69 = z69
    refine ⟨?_, ?_⟩
    · -- left
      refine ⟨by first | omega | (dsimp only; omega), ?_⟩ -- (↑(v_33.snd.snd.snd.fst + (1 : Nat)) : Int) ≤ nmb (65535 : Int) (1048576 : Int) (1048576 : Int) b ∧ nmb (65535 : Int) (1048576 : Int) (1048576 : Int) b ≤ (8 : Int)
      refine ⟨by show b.length ≤ (1000000 : Nat); assumption, ?_⟩ -- b.length ≤ (1000000 : Nat)
      refine ⟨by show r_62.length ≤ b.length; omega, ?_⟩ -- r_62.length ≤ b.length
      have h43 : z69.length = v_33.snd.snd.snd.fst + (1 : Nat) := by
        rw [qz69]; simp; omega
      refine ⟨h43, ?_⟩
      refine ⟨by first | with_reducible rfl | rfl, ?_⟩ -- v_33.snd.snd.snd.fst + (1 : Nat) = v_33.snd.snd.snd.fst + (1 : Nat)
      -- CIn (65535 : Int) (1048576 : Int) (1048576 : Int) (1048576 : Int) b (v_33.snd.snd.snd.fst + (1 : Nat)) bd_63 r_62 z69
      exact cin_step h24.2.2.2.2.2 (by omega) (by omega) h40 h39 (by rw [qz69, h38, List.take_of_length_le (by omega)]; rfl)
    exact by show (nmb (65535 : Int) (1048576 : Int) (1048576 : Int) b - (↑(v_33.snd.snd.snd.fst + (1 : Nat)) : Int)).toNat < (nmb (65535 : Int) (1048576 : Int) (1048576 : Int) b - (↑v_33.fst : Int)).toNat; omega -- (nmb (65535 : Int) (1048576 : Int) (1048576 : Int) b - (↑(v_33.snd.snd.snd.fst + (1 : Nat)) : Int)).toNat < (nmb (65535 : Int) (1048576 : Int) (1048576 : Int) b - (↑v_33.fst : Int)).toNat
  · -- no
    have h44 : (List.take v_33.snd.snd.snd.fst (List.drop (0 : Nat) v_33.snd.snd.snd.snd)).length ≤ (1000000 : Nat) := by
      rw [List.length_take]; omega
    refine ⟨h44, ?_⟩
    intro e_74
    intro ys_75
    intro n_76
    intro h45 -- e_74 = cE (oneV (65535 : Int) b) (oneV (1048576 : Int) (oneR (65535 : Int) b)) (oneV (1048576 : Int) (oneR (1048576 : Int) (oneR (65535 : Int) b))) (List.take v_33.snd.snd.snd.fst (List.drop (0 : Nat) v_33.snd.snd.snd.snd))
    intro h46 -- ys_75 = cO (oneV (65535 : Int) b) (oneV (1048576 : Int) (oneR (65535 : Int) b)) (oneV (1048576 : Int) (oneR (1048576 : Int) (oneR (65535 : Int) b))) (List.take v_33.snd.snd.snd.fst (List.drop (0 : Nat) v_33.snd.snd.snd.snd))
    intro h47 -- ys_75.length = n_76
    refine br_intro (fun c48 => ?_) (fun c48 => ?_) -- bif v_33.snd.snd.fst then true else e_74 != (0 : Int)
    · -- yes
      simp at c48 -- v_33.snd.snd.fst = true ∨ ¬e_74 = (0 : Int)
      refine ⟨by with_reducible rfl, ?_⟩ -- true = true
      -- k (AV.tup [AV.agg [AV.int IntKind.i64 (0 : Int), AV.int IntKind.i64 (0 : Int), AV.int IntKind.i64 (0 : Int), AV.nilsl], AV.int IntKind.i64 (8 : Int)]) [] []
      rcases c48 with c | c
      · exact hk.1 (by unfold ansC; rw [h24.2.2.2.2.2.no c])
      · cases bf : v_33.snd.snd.fst with
        | true => exact hk.1 (by unfold ansC; rw [h24.2.2.2.2.2.no bf])
        | false =>
          have tl : List.take v_33.snd.snd.snd.fst (List.drop 0 v_33.snd.snd.snd.snd) = v_33.snd.snd.snd.snd := by rw [List.drop_zero, List.take_of_length_le (by omega)]
          have R := cin_end h24.2.2.2.2.2 (by omega) bf
          rw [tl] at h45 h46
          refine hk.1 ?_
          unfold ansC
          rw [R]
          dsimp only
          rw [if_neg]
          intro d
          exact c (h45.trans d.1)
    · -- no
      simp at c48 -- v_33.snd.snd.fst = false ∧ e_74 = (0 : Int)
      intro r_80
      intro h49 -- r_80 = true ↔ List.take n_76 (List.drop (0 : Nat) ys_75) = b
      refine br_intro (fun c50 => ?_) (fun c50 => ?_) -- bif false then true else !r_80
      · -- yes
        simp at c50 -- r_80 = false
        -- k (AV.tup [AV.agg [AV.int IntKind.i64 (0 : Int), AV.int IntKind.i64 (0 : Int), AV.int IntKind.i64 (0 : Int), AV.nilsl], AV.int IntKind.i64 (8 : Int)]) [] []
        have tl : List.take v_33.snd.snd.snd.fst (List.drop 0 v_33.snd.snd.snd.snd) = v_33.snd.snd.snd.snd := by rw [List.drop_zero, List.take_of_length_le (by omega)]
        have R := cin_end h24.2.2.2.2.2 (by omega) c48.1
        rw [tl] at h45 h46
        refine hk.1 ?_
        unfold ansC
        rw [R]
        dsimp only
        rw [if_neg]
        intro d
        have := h49.2 (by rw [List.drop_zero, ← h47, List.take_length, h46]; exact d.2)
        rw [c50] at this; cases this
      · -- no
        simp at c50 -- r_80 = true
        -- k (AV.tup [AV.agg [AV.int IntKind.i64 (oneV (65535 : Int) b), AV.int IntKind.i64 (oneV (1048576 : Int) (oneR (65535 : Int) b)), AV.int IntKind.i64 (oneV (1048576 : Int) (oneR (1048576 : Int) (oneR (65535 : Int) b))), AV.row (1 : Nat) (0 : Nat) (0 : Nat) v_33.snd.snd.snd.fst], AV.int IntKind.i64 (0 : Int)]) [] [Blk.row (1 : Nat) v_33.snd.snd.snd.snd]
        have tl : List.take v_33.snd.snd.snd.fst (List.drop 0 v_33.snd.snd.snd.snd) = v_33.snd.snd.snd.snd := by rw [List.drop_zero, List.take_of_length_le (by omega)]
        have R := cin_end h24.2.2.2.2.2 (by omega) c48.1
        rw [tl] at h45 h46
        have d2 := h49.1 c50
        rw [List.drop_zero, ← h47, List.take_length, h46] at d2
        exact hk.2 _ _ _ _ _ (by unfold ansC; rw [R]; dsimp only; rw [if_pos ⟨h45.symm.trans c48.2, d2⟩]) h24.2.2.2.1 (by omega)

theorem ofc_ok : Holds Try.prog 25 ofcS := by
  refine fn_sound (env := mkEnv M4) (tab_ok M4_ok) Try.func25 Try.call25 fun args k h => ?_
  match args, h with
  | [.sl 0 b], h => exact ⟨by kernel_rfl, ofcLoops b, fun _ _ => none, .cast (by kernel_rfl) (ofc_vc b h.1 k h.2)⟩
set_option maxHeartbeats 2000000 in
theorem ofr_vc (b : List UInt8) (hb : b.length ≤ (1000000 : Nat)) (k : AV → List (Option Blk) → List Blk → Prop) (hk : (ansR b = none → k (AV.tup [AV.agg [AV.int IntKind.i64 (0 : Int), AV.int IntKind.u8 (0 : Int), AV.int IntKind.i64 (0 : Int), AV.nilsl], AV.int IntKind.i64 (8 : Int)]) [] []) ∧ ∀ (s c o : Int) (l : List Int) (n : Nat), ansR b = some (s, c, o, l) → l.length = n → n ≤ (8 : Nat) → k (AV.tup [AV.agg [AV.int IntKind.i64 s, AV.int IntKind.u8 c, AV.int IntKind.i64 o, AV.row (1 : Nat) (0 : Nat) (0 : Nat) n], AV.int IntKind.i64 (0 : Int)]) [] [Blk.row (1 : Nat) l]) :
  (
   ((0 : Int) ≤ (65535 : Int)) ∧
   ((65535 : Int) ≤ (9223372036854775807 : Int))) ∧
  (b.length ≤ (1000000 : Nat)) ∧
  ∀ (v_1 : Int),
  ∀ (r_2 : List UInt8),
  ∀ (bd_3 : Bool),
  (v_1 = oneV (65535 : Int) b) →
  (r_2 = oneR (65535 : Int) b) →
  (bd_3 = (false || oneB (65535 : Int) b)) →
  ((0 : Int) ≤ v_1 ∧ v_1 ≤ (65535 : Int)) →
  (r_2.length ≤ b.length) →
  (
   ((0 : Int) ≤ (3 : Int)) ∧
   ((3 : Int) ≤ (9223372036854775807 : Int))) ∧
  (r_2.length ≤ (1000000 : Nat)) ∧
  ∀ (v_9 : Int),
  ∀ (r_10 : List UInt8),
  ∀ (bd_11 : Bool),
  (v_9 = oneV (3 : Int) r_2) →
  (r_10 = oneR (3 : Int) r_2) →
  (bd_11 = (bd_3 || oneB (3 : Int) r_2)) →
  ((0 : Int) ≤ v_9 ∧ v_9 ≤ (3 : Int)) →
  (r_10.length ≤ r_2.length) →
  ∀ (n17 : Int),
  (n17 = IntKind.u8.wrap v_9) →
  ((0 : Int) ≤ n17 ∧ n17 ≤ (255 : Int)) →
  (
   ((0 : Int) ≤ (1073741824 : Int)) ∧
   ((1073741824 : Int) ≤ (9223372036854775807 : Int))) ∧
  (r_10.length ≤ (1000000 : Nat)) ∧
  ∀ (v_20 : Int),
  ∀ (r_21 : List UInt8),
  ∀ (bd_22 : Bool),
  (v_20 = oneV (1073741824 : Int) r_10) →
  (r_21 = oneR (1073741824 : Int) r_10) →
  (bd_22 = (bd_11 || oneB (1073741824 : Int) r_10)) →
  ((0 : Int) ≤ v_20 ∧ v_20 ≤ (1073741824 : Int)) →
  (r_21.length ≤ r_10.length) →
  (
   ((0 : Int) ≤ (8 : Int)) ∧
   ((8 : Int) ≤ (9223372036854775807 : Int))) ∧
  (r_21.length ≤ (1000000 : Nat)) ∧
  ∀ (v_28 : Int),
  ∀ (r_29 : List UInt8),
  ∀ (bd_30 : Bool),
  (v_28 = oneV (8 : Int) r_21) →
  (r_29 = oneR (8 : Int) r_21) →
  (bd_30 = (bd_22 || oneB (8 : Int) r_21)) →
  ((0 : Int) ≤ v_28 ∧ v_28 ≤ (8 : Int)) →
  (r_29.length ≤ r_21.length) →
  (
   ∃ (v : Nat × List UInt8 × Bool × Nat × List Int),
   (b = b) ∧
   (v_28 = nmb (65535 : Int) (3 : Int) (1073741824 : Int) b) ∧
   ((0 : Int) = (↑v.fst : Int)) ∧
   ((0 : Int) = (0 : Int)) ∧
   ((0 : Int) = (0 : Int)) ∧
   ((0 : Int) = (0 : Int)) ∧
   (r_29 = v.snd.fst) ∧
   (bd_30 = v.snd.snd.fst) ∧
   (v_1 = oneV (65535 : Int) b) ∧
   (n17 = oneV (3 : Int) (oneR (65535 : Int) b)) ∧
   (v_20 = oneV (1073741824 : Int) (oneR (3 : Int) (oneR (65535 : Int) b))) ∧
   ((0 : Nat) = (0 : Nat)) ∧
   ((0 : Nat) = v.snd.snd.snd.fst) ∧
   ([] = v.snd.snd.snd.snd) ∧
   (
    ((↑v.fst : Int) ≤ nmb (65535 : Int) (3 : Int) (1073741824 : Int) b) ∧
    (nmb (65535 : Int) (3 : Int) (1073741824 : Int) b ≤ (8 : Int))) ∧
   (b.length ≤ (1000000 : Nat)) ∧
   (v.snd.fst.length ≤ b.length) ∧
   (v.snd.snd.snd.snd.length = v.snd.snd.snd.fst) ∧
   (v.snd.snd.snd.fst = v.fst) ∧
   (CIn (65535 : Int) (3 : Int) (1073741824 : Int) (70368744177664 : Int) b v.fst v.snd.snd.fst v.snd.fst v.snd.snd.snd.snd)) ∧
  ∀ (v_36 : Nat × List UInt8 × Bool × Nat × List Int),
  (((↑v_36.fst : Int) ≤ nmb (65535 : Int) (3 : Int) (1073741824 : Int) b ∧ nmb (65535 : Int) (3 : Int) (1073741824 : Int) b ≤ (8 : Int)) ∧ b.length ≤ (1000000 : Nat) ∧ v_36.snd.fst.length ≤ b.length ∧ v_36.snd.snd.snd.snd.length = v_36.snd.snd.snd.fst ∧ v_36.snd.snd.snd.fst = v_36.fst ∧ CIn (65535 : Int) (3 : Int) (1073741824 : Int) (70368744177664 : Int) b v_36.fst v_36.snd.snd.fst v_36.snd.fst v_36.snd.snd.snd.snd) →
  br (decide ((↑v_36.fst : Int) < nmb (65535 : Int) (3 : Int) (1073741824 : Int) b))
   ((
     (
      (
       ((0 : Int) ≤ (70368744177664 : Int)) ∧
       ((70368744177664 : Int) ≤ (9223372036854775807 : Int))) ∧
      (v_36.snd.fst.length ≤ (1000000 : Nat)) ∧
      ∀ (v_38 : Int),
      ∀ (r_39 : List UInt8),
      ∀ (bd_40 : Bool),
      (v_38 = oneV (70368744177664 : Int) v_36.snd.fst) →
      (r_39 = oneR (70368744177664 : Int) v_36.snd.fst) →
      (bd_40 = (v_36.snd.snd.fst || oneB (70368744177664 : Int) v_36.snd.fst)) →
      ((0 : Int) ≤ v_38 ∧ v_38 ≤ (70368744177664 : Int)) →
      (r_39.length ≤ v_36.snd.fst.length) →
      ((v_36.snd.snd.snd.fst + (1 : Nat)) * (8 : Nat) ≤ (140737488355328 : Nat)) ∧
      ∀ (z46 : List Int),
      (z46 = List.take v_36.snd.snd.snd.fst v_36.snd.snd.snd.snd ++ List.take (1 : Nat) (List.drop (0 : Nat) [v_38])) →
      ∀ (n48 : Int),
      (n48 = IntKind.i64.wrap ((↑v_36.fst : Int) + (1 : Int))) →
      ((-9223372036854775808 : Int) ≤ n48 ∧ n48 ≤ (9223372036854775807 : Int)) →
      ∃ (v' : Nat × List UInt8 × Bool × Nat × List Int),
      (b = b) ∧
      (nmb (65535 : Int) (3 : Int) (1073741824 : Int) b = nmb (65535 : Int) (3 : Int) (1073741824 : Int) b) ∧
      (n48 = (↑v'.fst : Int)) ∧
      ((0 : Int) = (0 : Int)) ∧
      ((0 : Int) = (0 : Int)) ∧
      ((0 : Int) = (0 : Int)) ∧
      (r_39 = v'.snd.fst) ∧
      (bd_40 = v'.snd.snd.fst) ∧
      (oneV (65535 : Int) b = oneV (65535 : Int) b) ∧
      (oneV (3 : Int) (oneR (65535 : Int) b) = oneV (3 : Int) (oneR (65535 : Int) b)) ∧
      (oneV (1073741824 : Int) (oneR (3 : Int) (oneR (65535 : Int) b)) = oneV (1073741824 : Int) (oneR (3 : Int) (oneR (65535 : Int) b))) ∧
      ((0 : Nat) = (0 : Nat)) ∧
      (v_36.snd.snd.snd.fst + (1 : Nat) = v'.snd.snd.snd.fst) ∧
      (z46 = v'.snd.snd.snd.snd) ∧
      (
       (
        ((↑v'.fst : Int) ≤ nmb (65535 : Int) (3 : Int) (1073741824 : Int) b) ∧
        (nmb (65535 : Int) (3 : Int) (1073741824 : Int) b ≤ (8 : Int))) ∧
       (b.length ≤ (1000000 : Nat)) ∧
       (v'.snd.fst.length ≤ b.length) ∧
       (v'.snd.snd.snd.snd.length = v'.snd.snd.snd.fst) ∧
       (v'.snd.snd.snd.fst = v'.fst) ∧
       (CIn (65535 : Int) (3 : Int) (1073741824 : Int) (70368744177664 : Int) b v'.fst v'.snd.snd.fst v'.snd.fst v'.snd.snd.snd.snd)) ∧
      ((nmb (65535 : Int) (3 : Int) (1073741824 : Int) b - (↑v'.fst : Int)).toNat < (nmb (65535 : Int) (3 : Int) (1073741824 : Int) b - (↑v_36.fst : Int)).toNat)) ∧
     (
      ((0 : Int) ≤ (70368744177664 : Int)) ∧
      ((70368744177664 : Int) ≤ (9223372036854775807 : Int))) ∧
     (v_36.snd.fst.length ≤ (1000000 : Nat)) ∧
     ∀ (v_51 : Int),
     ∀ (r_52 : List UInt8),
     ∀ (bd_53 : Bool),
     (v_51 = oneV (70368744177664 : Int) v_36.snd.fst) →
     (r_52 = oneR (70368744177664 : Int) v_36.snd.fst) →
     (bd_53 = (v_36.snd.snd.fst || oneB (70368744177664 : Int) v_36.snd.fst)) →
     ((0 : Int) ≤ v_51 ∧ v_51 ≤ (70368744177664 : Int)) →
     (r_52.length ≤ v_36.snd.fst.length) →
     ((v_36.snd.snd.snd.fst + (1 : Nat)) * (8 : Nat) ≤ (140737488355328 : Nat)) ∧
     ∀ (z59 : List Int),
     (z59 = List.take v_36.snd.snd.snd.fst v_36.snd.snd.snd.snd ++ List.take (1 : Nat) (List.drop (0 : Nat) [v_51])) →
     ∀ (n61 : Int),
     (n61 = IntKind.i64.wrap ((↑v_36.fst : Int) + (1 : Int))) →
     ((-9223372036854775808 : Int) ≤ n61 ∧ n61 ≤ (9223372036854775807 : Int)) →
     ∃ (v' : Nat × List UInt8 × Bool × Nat × List Int),
     (b = b) ∧
     (nmb (65535 : Int) (3 : Int) (1073741824 : Int) b = nmb (65535 : Int) (3 : Int) (1073741824 : Int) b) ∧
     (n61 = (↑v'.fst : Int)) ∧
     ((0 : Int) = (0 : Int)) ∧
     ((0 : Int) = (0 : Int)) ∧
     ((0 : Int) = (0 : Int)) ∧
     (r_52 = v'.snd.fst) ∧
     (bd_53 = v'.snd.snd.fst) ∧
     (oneV (65535 : Int) b = oneV (65535 : Int) b) ∧
     (oneV (3 : Int) (oneR (65535 : Int) b) = oneV (3 : Int) (oneR (65535 : Int) b)) ∧
     (oneV (1073741824 : Int) (oneR (3 : Int) (oneR (65535 : Int) b)) = oneV (1073741824 : Int) (oneR (3 : Int) (oneR (65535 : Int) b))) ∧
     ((0 : Nat) = (0 : Nat)) ∧
     (v_36.snd.snd.snd.fst + (1 : Nat) = v'.snd.snd.snd.fst) ∧
     (z59 = v'.snd.snd.snd.snd) ∧
     (
      (
       ((↑v'.fst : Int) ≤ nmb (65535 : Int) (3 : Int) (1073741824 : Int) b) ∧
       (nmb (65535 : Int) (3 : Int) (1073741824 : Int) b ≤ (8 : Int))) ∧
      (b.length ≤ (1000000 : Nat)) ∧
      (v'.snd.fst.length ≤ b.length) ∧
      (v'.snd.snd.snd.snd.length = v'.snd.snd.snd.fst) ∧
      (v'.snd.snd.snd.fst = v'.fst) ∧
      (CIn (65535 : Int) (3 : Int) (1073741824 : Int) (70368744177664 : Int) b v'.fst v'.snd.snd.fst v'.snd.fst v'.snd.snd.snd.snd)) ∧
     ((nmb (65535 : Int) (3 : Int) (1073741824 : Int) b - (↑v'.fst : Int)).toNat < (nmb (65535 : Int) (3 : Int) (1073741824 : Int) b - (↑v_36.fst : Int)).toNat)) ∧
    (
     ((0 : Int) ≤ (70368744177664 : Int)) ∧
     ((70368744177664 : Int) ≤ (9223372036854775807 : Int))) ∧
    (v_36.snd.fst.length ≤ (1000000 : Nat)) ∧
    ∀ (v_64 : Int),
    ∀ (r_65 : List UInt8),
    ∀ (bd_66 : Bool),
    (v_64 = oneV (70368744177664 : Int) v_36.snd.fst) →
    (r_65 = oneR (70368744177664 : Int) v_36.snd.fst) →
    (bd_66 = (v_36.snd.snd.fst || oneB (70368744177664 : Int) v_36.snd.fst)) →
    ((0 : Int) ≤ v_64 ∧ v_64 ≤ (70368744177664 : Int)) →
    (r_65.length ≤ v_36.snd.fst.length) →
    ((v_36.snd.snd.snd.fst + (1 : Nat)) * (8 : Nat) ≤ (140737488355328 : Nat)) ∧
    ∀ (z72 : List Int),
    (z72 = List.take v_36.snd.snd.snd.fst v_36.snd.snd.snd.snd ++ List.take (1 : Nat) (List.drop (0 : Nat) [v_64])) →
    ∀ (n74 : Int),
    (n74 = IntKind.i64.wrap ((↑v_36.fst : Int) + (1 : Int))) →
    ((-9223372036854775808 : Int) ≤ n74 ∧ n74 ≤ (9223372036854775807 : Int)) →
    ∃ (v' : Nat × List UInt8 × Bool × Nat × List Int),
    (b = b) ∧
    (nmb (65535 : Int) (3 : Int) (1073741824 : Int) b = nmb (65535 : Int) (3 : Int) (1073741824 : Int) b) ∧
    (n74 = (↑v'.fst : Int)) ∧
    ((0 : Int) = (0 : Int)) ∧
    ((0 : Int) = (0 : Int)) ∧
    ((0 : Int) = (0 : Int)) ∧
    (r_65 = v'.snd.fst) ∧
    (bd_66 = v'.snd.snd.fst) ∧
    (oneV (65535 : Int) b = oneV (65535 : Int) b) ∧
    (oneV (3 : Int) (oneR (65535 : Int) b) = oneV (3 : Int) (oneR (65535 : Int) b)) ∧
    (oneV (1073741824 : Int) (oneR (3 : Int) (oneR (65535 : Int) b)) = oneV (1073741824 : Int) (oneR (3 : Int) (oneR (65535 : Int) b))) ∧
    ((0 : Nat) = (0 : Nat)) ∧
    (v_36.snd.snd.snd.fst + (1 : Nat) = v'.snd.snd.snd.fst) ∧
    (z72 = v'.snd.snd.snd.snd) ∧
    (
     (
      ((↑v'.fst : Int) ≤ nmb (65535 : Int) (3 : Int) (1073741824 : Int) b) ∧
      (nmb (65535 : Int) (3 : Int) (1073741824 : Int) b ≤ (8 : Int))) ∧
     (b.length ≤ (1000000 : Nat)) ∧
     (v'.snd.fst.length ≤ b.length) ∧
     (v'.snd.snd.snd.snd.length = v'.snd.snd.snd.fst) ∧
     (v'.snd.snd.snd.fst = v'.fst) ∧
     (CIn (65535 : Int) (3 : Int) (1073741824 : Int) (70368744177664 : Int) b v'.fst v'.snd.snd.fst v'.snd.fst v'.snd.snd.snd.snd)) ∧
    ((nmb (65535 : Int) (3 : Int) (1073741824 : Int) b - (↑v'.fst : Int)).toNat < (nmb (65535 : Int) (3 : Int) (1073741824 : Int) b - (↑v_36.fst : Int)).toNat))
   (((List.take v_36.snd.snd.snd.fst (List.drop (0 : Nat) v_36.snd.snd.snd.snd)).length ≤ (1000000 : Nat)) ∧
    ∀ (e_77 : Int),
    ∀ (ys_78 : List UInt8),
    ∀ (n_79 : Nat),
    (e_77 = rE (oneV (65535 : Int) b) (oneV (3 : Int) (oneR (65535 : Int) b)) (oneV (1073741824 : Int) (oneR (3 : Int) (oneR (65535 : Int) b))) (List.take v_36.snd.snd.snd.fst (List.drop (0 : Nat) v_36.snd.snd.snd.snd))) →
    (ys_78 = rO (oneV (65535 : Int) b) (oneV (3 : Int) (oneR (65535 : Int) b)) (oneV (1073741824 : Int) (oneR (3 : Int) (oneR (65535 : Int) b))) (List.take v_36.snd.snd.snd.fst (List.drop (0 : Nat) v_36.snd.snd.snd.snd))) →
    (ys_78.length = n_79) →
    br (bif v_36.snd.snd.fst then true else e_77 != (0 : Int))
     ((true = true) ∧
      (k (AV.tup [AV.agg [AV.int IntKind.i64 (0 : Int), AV.int IntKind.u8 (0 : Int), AV.int IntKind.i64 (0 : Int), AV.nilsl], AV.int IntKind.i64 (8 : Int)]) [] []))
     (∀ (r_83 : Bool),
      (r_83 = true ↔ List.take n_79 (List.drop (0 : Nat) ys_78) = b) →
      br (bif false then true else !r_83)
       ((k (AV.tup [AV.agg [AV.int IntKind.i64 (0 : Int), AV.int IntKind.u8 (0 : Int), AV.int IntKind.i64 (0 : Int), AV.nilsl], AV.int IntKind.i64 (8 : Int)]) [] []))
       ((k (AV.tup [AV.agg [AV.int IntKind.i64 (oneV (65535 : Int) b), AV.int IntKind.u8 (oneV (3 : Int) (oneR (65535 : Int) b)), AV.int IntKind.i64 (oneV (1073741824 : Int) (oneR (3 : Int) (oneR (65535 : Int) b))), AV.row (1 : Nat) (0 : Nat) (0 : Nat) v_36.snd.snd.snd.fst], AV.int IntKind.i64 (0 : Int)]) [] [Blk.row (1 : Nat) v_36.snd.snd.snd.snd])))) := by
  refine ⟨by first | omega | (dsimp only; omega), ?_⟩ -- (0 : Int) ≤ (65535 : Int) ∧ (65535 : Int) ≤ (9223372036854775807 : Int)
  refine ⟨by assumption, ?_⟩ -- b.length ≤ (1000000 : Nat)
  intro v_1
  intro r_2
  intro bd_3
  intro h1 -- v_1 = oneV (65535 : Int) b
  intro h2 -- r_2 = oneR (65535 : Int) b
  intro h3 -- bd_3 = (false || oneB (65535 : Int) b)
  simp at h3 -- bd_3 = oneB (65535 : Int) b
  intro ⟨a4, b4⟩ -- (0 : Int) ≤ v_1 ∧ v_1 ≤ (65535 : Int)
  intro h5 -- r_2.length ≤ b.length
  refine ⟨by first | omega | (dsimp only; omega), ?_⟩ -- (0 : Int) ≤ (3 : Int) ∧ (3 : Int) ≤ (9223372036854775807 : Int)
  refine ⟨by first | omega | (dsimp only; omega), ?_⟩ -- r_2.length ≤ (1000000 : Nat)
  intro v_9
  intro r_10
  intro bd_11
  intro h6 -- v_9 = oneV (3 : Int) r_2
  intro h7 -- r_10 = oneR (3 : Int) r_2
  intro h8 -- bd_11 = (bd_3 || oneB (3 : Int) r_2)
  intro ⟨a9, b9⟩ -- (0 : Int) ≤ v_9 ∧ v_9 ≤ (3 : Int)
  intro h10 -- r_10.length ≤ r_2.length
  intro n17
  intro q17 -- n17 = IntKind.u8.wrap v_9
  rw [IntKind.wrap_u8] at q17
  intro ⟨l17, u17⟩ -- (0 : Int) ≤ n17 ∧ n17 ≤ (255 : Int)
  refine ⟨by first | omega | (dsimp only; omega), ?_⟩ -- (0 : Int) ≤ (1073741824 : Int) ∧ (1073741824 : Int) ≤ (9223372036854775807 : Int)
  refine ⟨by first | omega | (dsimp only; omega), ?_⟩ -- r_10.length ≤ (1000000 : Nat)
  intro v_20
  intro r_21
  intro bd_22
  intro h11 -- v_20 = oneV (1073741824 : Int) r_10
  intro h12 -- r_21 = oneR (1073741824 : Int) r_10
  intro h13 -- bd_22 = (bd_11 || oneB (1073741824 : Int) r_10)
  intro ⟨a14, b14⟩ -- (0 : Int) ≤ v_20 ∧ v_20 ≤ (1073741824 : Int)
  intro h15 -- r_21.length ≤ r_10.length
  refine ⟨by first | omega | (dsimp only; omega), ?_⟩ -- (0 : Int) ≤ (8 : Int) ∧ (8 : Int) ≤ (9223372036854775807 : Int)
  refine ⟨by first | omega | (dsimp only; omega), ?_⟩ -- r_21.length ≤ (1000000 : Nat)
  intro v_28
  intro r_29
  intro bd_30
  intro h16 -- v_28 = oneV (8 : Int) r_21
  intro h17 -- r_29 = oneR (8 : Int) r_21
  intro h18 -- bd_30 = (bd_22 || oneB (8 : Int) r_21)
  intro ⟨a19, b19⟩ -- (0 : Int) ≤ v_28 ∧ v_28 ≤ (8 : Int)
  intro h20 -- r_29.length ≤ r_21.length
  refine ⟨?_, ?_⟩
  · -- left
    refine ⟨((0 : Nat), r_29, bd_30, (0 : Nat), []), ?_⟩
    refine ⟨by first | with_reducible rfl | rfl, ?_⟩ -- b = b
    have h21 : v_28 = nmb (65535 : Int) (3 : Int) (1073741824 : Int) b := by
      rw [h16, h12, h7, h2]; rfl
    refine ⟨h21, ?_⟩
    refine ⟨by show (0 : Int) = (↑(0 : Nat) : Int); omega, ?_⟩ -- (0 : Int) = (↑(0 : Nat) : Int)
    refine ⟨by first | with_reducible rfl | rfl, ?_⟩ -- (0 : Int) = (0 : Int)
    refine ⟨by first | with_reducible rfl | rfl, ?_⟩ -- (0 : Int) = (0 : Int)
    refine ⟨by first | with_reducible rfl | rfl, ?_⟩ -- (0 : Int) = (0 : Int)
    refine ⟨by first | with_reducible rfl | rfl, ?_⟩ -- r_29 = r_29
    refine ⟨by first | with_reducible rfl | rfl, ?_⟩ -- bd_30 = bd_30
    refine ⟨by show v_1 = oneV (65535 : Int) b; assumption, ?_⟩ -- v_1 = oneV (65535 : Int) b
    have h22 : n17 = oneV (3 : Int) (oneR (65535 : Int) b) := by
      have := (oneV_in (m := 3) r_2 (by decide))
      rw [← h2]
      omega
    refine ⟨h22, ?_⟩
    have h23 : v_20 = oneV (1073741824 : Int) (oneR (3 : Int) (oneR (65535 : Int) b)) := by
      rw [h11, h7, h2]
    refine ⟨h23, ?_⟩
    refine ⟨by first | with_reducible rfl | rfl, ?_⟩ -- (0 : Nat) = (0 : Nat)
    refine ⟨by first | with_reducible rfl | rfl, ?_⟩ -- (0 : Nat) = (0 : Nat)
    refine ⟨by first | with_reducible rfl | rfl, ?_⟩ -- [] = []
    refine ⟨by first | omega | (dsimp only; omega), ?_⟩ -- (↑(0 : Nat) : Int) ≤ nmb (65535 : Int) (3 : Int) (1073741824 : Int) b ∧ nmb (65535 : Int) (3 : Int) (1073741824 : Int) b ≤ (8 : Int)
    refine ⟨by show b.length ≤ (1000000 : Nat); assumption, ?_⟩ -- b.length ≤ (1000000 : Nat)
    refine ⟨by show r_29.length ≤ b.length; omega, ?_⟩ -- r_29.length ≤ b.length
    refine ⟨by first | with_reducible rfl | rfl, ?_⟩ -- (0 : Nat) = (0 : Nat)
    refine ⟨by first | with_reducible rfl | rfl, ?_⟩ -- (0 : Nat) = (0 : Nat)
    -- CIn (65535 : Int) (3 : Int) (1073741824 : Int) (70368744177664 : Int) b (0 : Nat) bd_30 r_29 []
    exact cin_0 (by rw [h18, h13, h8, h3, h12, h7, h2]) (by rw [h17, h12, h7, h2])
  intro v_36
  intro h24 -- ((↑v_36.fst : Int) ≤ nmb (65535 : Int) (3 : Int) (1073741824 : Int) b ∧ nmb (65535 : Int) (3 : Int) (1073741824 : Int) b ≤ (8 : Int)) ∧ b.length ≤ (1000000 : Nat) ∧ v_36.snd.fst.length ≤ b.length ∧ v_36.snd.snd.snd.snd.length = v_36.snd.snd.snd.fst ∧ v_36.snd.snd.snd.fst = v_36.fst ∧ CIn (65535 : Int) (3 : Int) (1073741824 : Int) (70368744177664 : Int) b v_36.fst v_36.snd.snd.fst v_36.snd.fst v_36.snd.snd.snd.snd
  refine brd (fun c25 => ?_) (fun c25 => ?_) -- decide ((↑v_36.fst : Int) < nmb (65535 : Int) (3 : Int) (1073741824 : Int) b)
  · -- yes
    refine ⟨?_, ?_⟩
    · -- left
      refine ⟨?_, ?_⟩
      · -- left
        refine ⟨by first | omega | (dsimp only; omega), ?_⟩ -- (0 : Int) ≤ (70368744177664 : Int) ∧ (70368744177664 : Int) ≤ (9223372036854775807 : Int)
        refine ⟨by first | omega | (dsimp only; omega), ?_⟩ -- v_36.snd.fst.length ≤ (1000000 : Nat)
        intro v_38
        intro r_39
        intro bd_40
        intro h26 -- v_38 = oneV (70368744177664 : Int) v_36.snd.fst
        intro h27 -- r_39 = oneR (70368744177664 : Int) v_36.snd.fst
        intro h28 -- bd_40 = (v_36.snd.snd.fst || oneB (70368744177664 : Int) v_36.snd.fst)
        intro ⟨a29, b29⟩ -- (0 : Int) ≤ v_38 ∧ v_38 ≤ (70368744177664 : Int)
        intro h30 -- r_39.length ≤ v_36.snd.fst.length
        refine ⟨by first | omega | (dsimp only; omega), ?_⟩ -- (v_36.snd.snd.snd.fst + (1 : Nat)) * (8 : Nat) ≤ (140737488355328 : Nat)
        intro z46
        intro qz46 -- z46 = List.take v_36.snd.snd.snd.fst v_36.snd.snd.snd.snd ++ List.take (1 : Nat) (List.drop (0 : Nat) [v_38])
        intro n48
        intro q48 -- n48 = IntKind.i64.wrap ((↑v_36.fst : Int) + (1 : Int))
        rw [IntKind.wrap_i64] at q48
        intro ⟨l48, u48⟩ -- (-9223372036854775808 : Int) ≤ n48 ∧ n48 ≤ (9223372036854775807 : Int)
        refine ⟨(v_36.snd.snd.snd.fst + (1 : Nat), r_39, bd_40, v_36.snd.snd.snd.fst + (1 : Nat), z46), ?_⟩
        refine ⟨by first | with_reducible rfl | rfl, ?_⟩ -- b = b
        refine ⟨by first | with_reducible rfl | rfl, ?_⟩ -- nmb (65535 : Int) (3 : Int) (1073741824 : Int) b = nmb (65535 : Int) (3 : Int) (1073741824 : Int) b
        refine ⟨by show n48 = (↑(v_36.snd.snd.snd.fst + (1 : Nat)) : Int); omega, ?_⟩ -- n48 = (↑(v_36.snd.snd.snd.fst + (1 : Nat)) : Int)
        refine ⟨by first | with_reducible rfl | rfl, ?_⟩ -- (0 : Int) = (0 : Int)
        refine ⟨by first | with_reducible rfl | rfl, ?_⟩ -- (0 : Int) = (0 : Int)
        refine ⟨by first | with_reducible rfl | rfl, ?_⟩ -- (0 : Int) = (0 : Int)
        refine ⟨by first | with_reducible rfl | rfl, ?_⟩ -- r_39 = r_39
        refine ⟨by first | with_reducible rfl | rfl, ?_⟩ -- bd_40 = bd_40
        refine ⟨by first | with_reducible rfl | rfl, ?_⟩ -- oneV (65535 : Int) b = oneV (65535 : Int) b
        refine ⟨by first | with_reducible rfl | rfl, ?_⟩ -- oneV (3 : Int) (oneR (65535 : Int) b) = oneV (3 : Int) (oneR (65535 : Int) b)
        refine ⟨by first | with_reducible rfl | rfl, ?_⟩ -- oneV (1073741824 : Int) (oneR (3 : Int) (oneR (65535 : Int) b)) = oneV (1073741824 : Int) (oneR (3 : Int) (oneR (65535 : Int) b))
        refine ⟨by first | with_reducible rfl | rfl, ?_⟩ -- (0 : Nat) = (0 : Nat)
        refine ⟨by first | with_reducible rfl | rfl, ?_⟩ -- v_36.snd.snd.snd.fst + (1 : Nat) = v_36.snd.snd.snd.fst + (1 : Nat)
        refine ⟨by first | with_reducible rfl | rfl, ?_⟩ -- z46 = z46
        refine ⟨?_, ?_⟩
        · -- left
          refine ⟨by first | omega | (dsimp only; omega), ?_⟩ -- (↑(v_36.snd.snd.snd.fst + (1 : Nat)) : Int) ≤ nmb (65535 : Int) (3 : Int) (1073741824 : Int) b ∧ nmb (65535 : Int) (3 : Int) (1073741824 : Int) b ≤ (8 : Int)
          refine ⟨by show b.length ≤ (1000000 : Nat); assumption, ?_⟩ -- b.length ≤ (1000000 : Nat)
          refine ⟨by show r_39.length ≤ b.length; omega, ?_⟩ -- r_39.length ≤ b.length
          have h31 : z46.length = v_36.snd.snd.snd.fst + (1 : Nat) := by
            rw [qz46]; simp; omega
          refine ⟨h31, ?_⟩
          refine ⟨by first | with_reducible rfl | rfl, ?_⟩ -- v_36.snd.snd.snd.fst + (1 : Nat) = v_36.snd.snd.snd.fst + (1 : Nat)
          -- CIn (65535 : Int) (3 : Int) (1073741824 : Int) (70368744177664 : Int) b (v_36.snd.snd.snd.fst + (1 : Nat)) bd_40 r_39 z46
          exact cin_step h24.2.2.2.2.2 (by omega) (by omega) h28 h27 (by rw [qz46, h26, List.take_of_length_le (by omega)]; rfl)
        exact by show (nmb (65535 : Int) (3 : Int) (1073741824 : Int) b - (↑(v_36.snd.snd.snd.fst + (1 : Nat)) : Int)).toNat < (nmb (65535 : Int) (3 : Int) (1073741824 : Int) b - (↑v_36.fst : Int)).toNat; omega -- (nmb (65535 : Int) (3 : Int) (1073741824 : Int) b - (↑(v_36.snd.snd.snd.fst + (1 : Nat)) : Int)).toNat < (nmb (65535 : Int) (3 : Int) (1073741824 : Int) b - (↑v_36.fst : Int)).toNat
      refine ⟨by first | omega | (dsimp only; omega), ?_⟩ -- (0 : Int) ≤ (70368744177664 : Int) ∧ (70368744177664 : Int) ≤ (9223372036854775807 : Int)
      refine ⟨by first | omega | (dsimp only; omega), ?_⟩ -- v_36.snd.fst.length ≤ (1000000 : Nat)
      intro v_51
      intro r_52
      intro bd_53
      intro h32 -- v_51 = oneV (70368744177664 : Int) v_36.snd.fst
      intro h33 -- r_52 = oneR (70368744177664 : Int) v_36.snd.fst
      intro h34 -- bd_53 = (v_36.snd.snd.fst || oneB (70368744177664 : Int) v_36.snd.fst)
      intro ⟨a35, b35⟩ -- (0 : Int) ≤ v_51 ∧ v_51 ≤ (70368744177664 : Int)
      intro h36 -- r_52.length ≤ v_36.snd.fst.length
      refine ⟨by first | omega | (dsimp only; omega), ?_⟩ -- (v_36.snd.snd.snd.fst + (1 : Nat)) * (8 : Nat) ≤ (140737488355328 : Nat)
      intro z59
      intro qz59 -- z59 = List.take v_36.snd.snd.snd.fst v_36.snd.snd.snd.snd ++ List.take (1 : Nat) (List.drop (0 : Nat) [v_51])
      intro n61
      intro q61 -- n61 = IntKind.i64.wrap ((↑v_36.fst : Int) + (1 : Int))
      rw [IntKind.wrap_i64] at q61
      intro ⟨l61, u61⟩ -- (-9223372036854775808 : Int) ≤ n61 ∧ n61 ≤ (9223372036854775807 : Int)
      refine ⟨(v_36.snd.snd.snd.fst + (1 : Nat), r_52, bd_53, v_36.snd.snd.snd.fst + (1 : Nat), z59), ?_⟩
      refine ⟨by first | with_reducible rfl | rfl, ?_⟩ -- b = b
      refine ⟨by first | with_reducible rfl | rfl, ?_⟩ -- nmb (65535 : Int) (3 : Int) (1073741824 : Int) b = nmb (65535 : Int) (3 : Int) (1073741824 : Int) b
      refine ⟨by show n61 = (↑(v_36.snd.snd.snd.fst + (1 : Nat)) : Int); omega, ?_⟩ -- n61 = (↑(v_36.snd.snd.snd.fst + (1 : Nat)) : Int)
      refine ⟨by first | with_reducible rfl | rfl, ?_⟩ -- (0 : Int) = (0 : Int)
      refine ⟨by first | with_reducible rfl | rfl, ?_⟩ -- (0 : Int) = (0 : Int)
      refine ⟨by first | with_reducible rfl | rfl, ?_⟩ -- (0 : Int) = (0 : Int)
      refine ⟨by first | with_reducible rfl | rfl, ?_⟩ -- r_52 = r_52
      refine ⟨by first | with_reducible rfl | rfl, ?_⟩ -- bd_53 = bd_53
      refine ⟨by first | with_reducible rfl | rfl, ?_⟩ -- oneV (65535 : Int) b = oneV (65535 : Int) b
      refine ⟨by first | with_reducible rfl | rfl, ?_⟩ -- oneV (3 : Int) (oneR (65535 : Int) b) = oneV (3 : Int) (oneR (65535 : Int) b)
      refine ⟨by first | with_reducible rfl | rfl, ?_⟩ -- oneV (1073741824 : Int) (oneR (3 : Int) (oneR (65535 : Int) b)) = oneV (1073741824 : Int) (oneR (3 : Int) (oneR (65535 : Int) b))
      refine ⟨by first | with_reducible rfl | rfl, ?_⟩ -- (0 : Nat) = (0 : Nat)
      refine ⟨by first | with_reducible rfl | rfl, ?_⟩ -- v_36.snd.snd.snd.fst + (1 : Nat) = v_36.snd.snd.snd.fst + (1 : Nat)
      refine ⟨by first | with_reducible rfl | rfl, ?_⟩ -- z59 = z59
      refine ⟨?_, ?_⟩
      · -- left
        refine ⟨by first | omega | (dsimp only; omega), ?_⟩ -- (↑(v_36.snd.snd.snd.fst + (1 : Nat)) : Int) ≤ nmb (65535 : Int) (3 : Int) (1073741824 : Int) b ∧ nmb (65535 : Int) (3 : Int) (1073741824 : Int) b ≤ (8 : Int)
        refine ⟨by show b.length ≤ (1000000 : Nat); assumption, ?_⟩ -- b.length ≤ (1000000 : Nat)
        refine ⟨by show r_52.length ≤ b.length; omega, ?_⟩ -- r_52.length ≤ b.length
        have h37 : z59.length = v_36.snd.snd.snd.fst + (1 : Nat) := by
          rw [qz59]; simp; omega
        refine ⟨h37, ?_⟩
        refine ⟨by first | with_reducible rfl | rfl, ?_⟩ -- v_36.snd.snd.snd.fst + (1 : Nat) = v_36.snd.snd.snd.fst + (1 : Nat)
        -- CIn (65535 : Int) (3 : Int) (1073741824 : Int) (70368744177664 : Int) b (v_36.snd.snd.snd.fst + (1 : Nat)) bd_53 r_52 z59
        exact cin_step h24.2.2.2.2.2 (by omega) (by omega) h34 h33 (by rw [qz59, h32, List.take_of_length_le (by omega)]; rfl)
      exact by show (nmb (65535 : Int) (3 : Int) (1073741824 : Int) b - (↑(v_36.snd.snd.snd.fst + (1 : Nat)) : Int)).toNat < (nmb (65535 : Int) (3 : Int) (1073741824 : Int) b - (↑v_36.fst : Int)).toNat; omega -- (nmb (65535 : Int) (3 : Int) (1073741824 : Int) b - (↑(v_36.snd.snd.snd.fst + (1 : Nat)) : Int)).toNat < (nmb (65535 : Int) (3 : Int) (1073741824 : Int) b - (↑v_36.fst : Int)).toNat
    refine ⟨by first | omega | (dsimp only; omega), ?_⟩ -- (0 : Int) ≤ (70368744177664 : Int) ∧ (70368744177664 : Int) ≤ (9223372036854775807 : Int)
    refine ⟨by first | omega | (dsimp only; omega), ?_⟩ -- v_36.snd.fst.length ≤ (1000000 : Nat)
    intro v_64
    intro r_65
    intro bd_66
    intro h38 -- v_64 = oneV (70368744177664 : Int) v_36.snd.fst
    intro h39 -- r_65 = oneR (70368744177664 : Int) v_36.snd.fst
    intro h40 -- bd_66 = (v_36.snd.snd.fst || oneB (70368744177664 : Int) v_36.snd.fst)
    intro ⟨a41, b41⟩ -- (0 : Int) ≤ v_64 ∧ v_64 ≤ (70368744177664 : Int)
    intro h42 -- r_65.length ≤ v_36.snd.fst.length
    refine ⟨by first | omega | (dsimp only; omega), ?_⟩ -- (v_36.snd.snd.snd.fst + (1 : Nat)) * (8 : Nat) ≤ (140737488355328 : Nat)
    intro z72
    intro qz72 -- z72 = List.take v_36.snd.snd.snd.fst v_36.snd.snd.snd.snd ++ List.take (1 : Nat) (List.drop (0 : Nat) [v_64])
    intro n74
    intro q74 -- n74 = IntKind.i64.wrap ((↑v_36.fst : Int) + (1 : Int))
    rw [IntKind.wrap_i64] at q74
    intro ⟨l74, u74⟩ -- (-9223372036854775808 : Int) ≤ n74 ∧ n74 ≤ (9223372036854775807 : Int)
    refine ⟨(v_36.snd.snd.snd.fst + (1 : Nat), r_65, bd_66, v_36.snd.snd.snd.fst + (1 : Nat), z72), ?_⟩
    refine ⟨by first | with_reducible rfl | rfl, ?_⟩ -- b = b
    refine ⟨by first | with_reducible rfl | rfl, ?_⟩ -- nmb (65535 : Int) (3 : Int) (1073741824 : Int) b = nmb (65535 : Int) (3 : Int) (1073741824 : Int) b
    refine ⟨by show n74 = (↑(v_36.snd.snd.snd.fst + (1 : Nat)) : Int); omega, ?_⟩ -- n74 = (↑(v_36.snd.snd.snd.fst + (1 : Nat)) : Int)
    refine ⟨by first | with_reducible rfl | rfl, ?_⟩ -- (0 : Int) = (0 : Int)
    refine ⟨by first | with_reducible rfl | rfl, ?_⟩ -- (0 : Int) = (0 : Int)
    refine ⟨by first | with_reducible rfl | rfl, ?_⟩ -- (0 : Int) = (0 : Int)
    refine ⟨by first | with_reducible rfl | rfl, ?_⟩ -- r_65 = r_65
    refine ⟨by first | with_reducible rfl | rfl, ?_⟩ -- bd_66 = bd_66
    refine ⟨by first | with_reducible rfl | rfl, ?_⟩ -- oneV (65535 : Int) b = oneV (65535 : Int) b
    refine ⟨by first | with_reducible rfl | rfl, ?_⟩ -- oneV (3 : Int) (oneR (65535 : Int) b) = oneV (3 : Int) (oneR (65535 : Int) b)
    refine ⟨by first | with_reducible rfl | rfl, ?_⟩ -- oneV (1073741824 : Int) (oneR (3 : Int) (oneR (65535 : Int) b)) = oneV (1073741824 : Int) (oneR (3 : Int) (oneR (65535 : Int) b))
    refine ⟨by first | with_reducible rfl | rfl, ?_⟩ -- (0 : Nat) = (0 : Nat)
    refine ⟨by first | with_reducible rfl | rfl, ?_⟩ -- v_36.snd.snd.snd.fst + (1 : Nat) = v_36.snd.snd.snd.fst + (1 : Nat)
    refine ⟨by first | with_reducible rfl | rfl, ?_⟩ -- z72 = z72
    refine ⟨?_, ?_⟩
    · -- left
      refine ⟨by first | omega | (dsimp only; omega), ?_⟩ -- (↑(v_36.snd.snd.snd.fst + (1 : Nat)) : Int) ≤ nmb (65535 : Int) (3 : Int) (1073741824 : Int) b ∧ nmb (65535 : Int) (3 : Int) (1073741824 : Int) b ≤ (8 : Int)
      refine ⟨by show b.length ≤ (1000000 : Nat); assumption, ?_⟩ -- b.length ≤ (1000000 : Nat)
      refine ⟨by show r_65.length ≤ b.length; omega, ?_⟩ -- r_65.length ≤ b.length
      have h43 : z72.length = v_36.snd.snd.snd.fst + (1 : Nat) := by
        rw [qz72]; simp; omega
      refine ⟨h43, ?_⟩
      refine ⟨by first | with_reducible rfl | rfl, ?_⟩ -- v_36.snd.snd.snd.fst + (1 : Nat) = v_36.snd.snd.snd.fst + (1 : Nat)
      -- CIn (65535 : Int) (3 : Int) (1073741824 : Int) (70368744177664 : Int) b (v_36.snd.snd.snd.fst + (1 : Nat)) bd_66 r_65 z72
      exact cin_step h24.2.2.2.2.2 (by omega) (by omega) h40 h39 (by rw [qz72, h38, List.take_of_length_le (by omega)]; rfl)
    exact by show (nmb (65535 : Int) (3 : Int) (1073741824 : Int) b - (↑(v_36.snd.snd.snd.fst + (1 : Nat)) : Int)).toNat < (nmb (65535 : Int) (3 : Int) (1073741824 : Int) b - (↑v_36.fst : Int)).toNat; omega -- (nmb (65535 : Int) (3 : Int) (1073741824 : Int) b - (↑(v_36.snd.snd.snd.fst + (1 : Nat)) : Int)).toNat < (nmb (65535 : Int) (3 : Int) (1073741824 : Int) b - (↑v_36.fst : Int)).toNat
  · -- no
    have h44 : (List.take v_36.snd.snd.snd.fst (List.drop (0 : Nat) v_36.snd.snd.snd.snd)).length ≤ (1000000 : Nat) := by
      rw [List.length_take]; omega
    refine ⟨h44, ?_⟩
    intro e_77
    intro ys_78
    intro n_79
    intro h45 -- e_77 = rE (oneV (65535 : Int) b) (oneV (3 : Int) (oneR (65535 : Int) b)) (oneV (1073741824 : Int) (oneR (3 : Int) (oneR (65535 : Int) b))) (List.take v_36.snd.snd.snd.fst (List.drop (0 : Nat) v_36.snd.snd.snd.snd))
    intro h46 -- ys_78 = rO (oneV (65535 : Int) b) (oneV (3 : Int) (oneR (65535 : Int) b)) (oneV (1073741824 : Int) (oneR (3 : Int) (oneR (65535 : Int) b))) (List.take v_36.snd.snd.snd.fst (List.drop (0 : Nat) v_36.snd.snd.snd.snd))
    intro h47 -- ys_78.length = n_79
    refine br_intro (fun c48 => ?_) (fun c48 => ?_) -- bif v_36.snd.snd.fst then true else e_77 != (0 : Int)
    · -- yes
      simp at c48 -- v_36.snd.snd.fst = true ∨ ¬e_77 = (0 : Int)
      refine ⟨by with_reducible rfl, ?_⟩ -- true = true
      -- k (AV.tup [AV.agg [AV.int IntKind.i64 (0 : Int), AV.int IntKind.u8 (0 : Int), AV.int IntKind.i64 (0 : Int), AV.nilsl], AV.int IntKind.i64 (8 : Int)]) [] []
      rcases c48 with c | c
      · exact hk.1 (by unfold ansR; rw [h24.2.2.2.2.2.no c])
      · cases bf : v_36.snd.snd.fst with
        | true => exact hk.1 (by unfold ansR; rw [h24.2.2.2.2.2.no bf])
        | false =>
          have tl : List.take v_36.snd.snd.snd.fst (List.drop 0 v_36.snd.snd.snd.snd) = v_36.snd.snd.snd.snd := by rw [List.drop_zero, List.take_of_length_le (by omega)]
          have R := cin_end h24.2.2.2.2.2 (by omega) bf
          rw [tl] at h45 h46
          refine hk.1 ?_
          unfold ansR
          rw [R]
          dsimp only
          rw [if_neg]
          intro d
          exact c (h45.trans d.1)
    · -- no
      simp at c48 -- v_36.snd.snd.fst = false ∧ e_77 = (0 : Int)
      intro r_83
      intro h49 -- r_83 = true ↔ List.take n_79 (List.drop (0 : Nat) ys_78) = b
      refine br_intro (fun c50 => ?_) (fun c50 => ?_) -- bif false then true else !r_83
      · -- yes
        simp at c50 -- r_83 = false
        -- k (AV.tup [AV.agg [AV.int IntKind.i64 (0 : Int), AV.int IntKind.u8 (0 : Int), AV.int IntKind.i64 (0 : Int), AV.nilsl], AV.int IntKind.i64 (8 : Int)]) [] []
        have tl : List.take v_36.snd.snd.snd.fst (List.drop 0 v_36.snd.snd.snd.snd) = v_36.snd.snd.snd.snd := by rw [List.drop_zero, List.take_of_length_le (by omega)]
        have R := cin_end h24.2.2.2.2.2 (by omega) c48.1
        rw [tl] at h45 h46
        refine hk.1 ?_
        unfold ansR
        rw [R]
        dsimp only
        rw [if_neg]
        intro d
        have := h49.2 (by rw [List.drop_zero, ← h47, List.take_length, h46]; exact d.2)
        rw [c50] at this; cases this
      · -- no
        simp at c50 -- r_83 = true
        -- k (AV.tup [AV.agg [AV.int IntKind.i64 (oneV (65535 : Int) b), AV.int IntKind.u8 (oneV (3 : Int) (oneR (65535 : Int) b)), AV.int IntKind.i64 (oneV (1073741824 : Int) (oneR (3 : Int) (oneR (65535 : Int) b))), AV.row (1 : Nat) (0 : Nat) (0 : Nat) v_36.snd.snd.snd.fst], AV.int IntKind.i64 (0 : Int)]) [] [Blk.row (1 : Nat) v_36.snd.snd.snd.snd]
        have tl : List.take v_36.snd.snd.snd.fst (List.drop 0 v_36.snd.snd.snd.snd) = v_36.snd.snd.snd.snd := by rw [List.drop_zero, List.take_of_length_le (by omega)]
        have R := cin_end h24.2.2.2.2.2 (by omega) c48.1
        rw [tl] at h45 h46
        have d2 := h49.1 c50
        rw [List.drop_zero, ← h47, List.take_length, h46] at d2
        exact hk.2 _ _ _ _ _ (by unfold ansR; rw [R]; dsimp only; rw [if_pos ⟨h45.symm.trans c48.2, d2⟩]) h24.2.2.2.1 (by omega)

theorem ofr_ok : Holds Try.prog 27 ofrS := by
  refine fn_sound (env := mkEnv M4) (tab_ok M4_ok) Try.func27 Try.call27 fun args k h => ?_
  match args, h with
  | [.sl 0 b], h => exact ⟨by kernel_rfl, ofrLoops b, fun _ _ => none, .cast (by kernel_rfl) (ofr_vc b h.1 k h.2)⟩
set_option maxHeartbeats 2000000 in
theorem rofc_vc (b : List UInt8) (hb : b.length ≤ (1000000 : Nat)) (k : AV → List (Option Blk) → List Blk → Prop) (hk : (ansC b = none → k (AV.tup [AV.agg [AV.int IntKind.i64 (0 : Int), AV.int IntKind.i64 (0 : Int), AV.int IntKind.i64 (0 : Int), AV.nilsl], AV.int IntKind.i64 (8 : Int)]) [] []) ∧ ∀ (s c o : Int) (l : List Int) (n : Nat), ansC b = some (s, c, o, l) → l.length = n → n ≤ (8 : Nat) → k (AV.tup [AV.agg [AV.int IntKind.i64 s, AV.int IntKind.i64 c, AV.int IntKind.i64 o, AV.row (1 : Nat) (0 : Nat) (0 : Nat) n], AV.int IntKind.i64 (0 : Int)]) [] [Blk.row (1 : Nat) l]) :
  (
   ((0 : Int) ≤ (65535 : Int)) ∧
   ((65535 : Int) ≤ (9223372036854775807 : Int))) ∧
  (b.length ≤ (1000000 : Nat)) ∧
  ∀ (v_1 : Int),
  ∀ (r_2 : List UInt8),
  ∀ (bd_3 : Bool),
  (v_1 = oneV (65535 : Int) b) →
  (r_2 = oneR (65535 : Int) b) →
  (bd_3 = (false || oneB (65535 : Int) b)) →
  ((0 : Int) ≤ v_1 ∧ v_1 ≤ (65535 : Int)) →
  (r_2.length ≤ b.length) →
  (
   ((0 : Int) ≤ (1048576 : Int)) ∧
   ((1048576 : Int) ≤ (9223372036854775807 : Int))) ∧
  (r_2.length ≤ (1000000 : Nat)) ∧
  ∀ (v_9 : Int),
  ∀ (r_10 : List UInt8),
  ∀ (bd_11 : Bool),
  (v_9 = oneV (1048576 : Int) r_2) →
  (r_10 = oneR (1048576 : Int) r_2) →
  (bd_11 = (bd_3 || oneB (1048576 : Int) r_2)) →
  ((0 : Int) ≤ v_9 ∧ v_9 ≤ (1048576 : Int)) →
  (r_10.length ≤ r_2.length) →
  (
   ((0 : Int) ≤ (1048576 : Int)) ∧
   ((1048576 : Int) ≤ (9223372036854775807 : Int))) ∧
  (r_10.length ≤ (1000000 : Nat)) ∧
  ∀ (v_17 : Int),
  ∀ (r_18 : List UInt8),
  ∀ (bd_19 : Bool),
  (v_17 = oneV (1048576 : Int) r_10) →
  (r_18 = oneR (1048576 : Int) r_10) →
  (bd_19 = (bd_11 || oneB (1048576 : Int) r_10)) →
  ((0 : Int) ≤ v_17 ∧ v_17 ≤ (1048576 : Int)) →
  (r_18.length ≤ r_10.length) →
  (
   ((0 : Int) ≤ (8 : Int)) ∧
   ((8 : Int) ≤ (9223372036854775807 : Int))) ∧
  (r_18.length ≤ (1000000 : Nat)) ∧
  ∀ (v_25 : Int),
  ∀ (r_26 : List UInt8),
  ∀ (bd_27 : Bool),
  (v_25 = oneV (8 : Int) r_18) →
  (r_26 = oneR (8 : Int) r_18) →
  (bd_27 = (bd_19 || oneB (8 : Int) r_18)) →
  ((0 : Int) ≤ v_25 ∧ v_25 ≤ (8 : Int)) →
  (r_26.length ≤ r_18.length) →
  (
   ∃ (v : Nat × List UInt8 × Bool × Nat × List Int),
   (b = b) ∧
   (v_25 = nmb (65535 : Int) (1048576 : Int) (1048576 : Int) b) ∧
   ((0 : Int) = (↑v.fst : Int)) ∧
   ((0 : Int) = (0 : Int)) ∧
   ((0 : Int) = (0 : Int)) ∧
   ((0 : Int) = (0 : Int)) ∧
   (r_26 = v.snd.fst) ∧
   (bd_27 = v.snd.snd.fst) ∧
   (v_1 = oneV (65535 : Int) b) ∧
   (v_9 = oneV (1048576 : Int) (oneR (65535 : Int) b)) ∧
   (v_17 = oneV (1048576 : Int) (oneR (1048576 : Int) (oneR (65535 : Int) b))) ∧
   ((0 : Nat) = (0 : Nat)) ∧
   ((0 : Nat) = v.snd.snd.snd.fst) ∧
   ([] = v.snd.snd.snd.snd) ∧
   (
    ((↑v.fst : Int) ≤ nmb (65535 : Int) (1048576 : Int) (1048576 : Int) b) ∧
    (nmb (65535 : Int) (1048576 : Int) (1048576 : Int) b ≤ (8 : Int))) ∧
   (b.length ≤ (1000000 : Nat)) ∧
   (v.snd.fst.length ≤ b.length) ∧
   (v.snd.snd.snd.snd.length = v.snd.snd.snd.fst) ∧
   (v.snd.snd.snd.fst = v.fst) ∧
   (CIn (65535 : Int) (1048576 : Int) (1048576 : Int) (1048576 : Int) b v.fst v.snd.snd.fst v.snd.fst v.snd.snd.snd.snd)) ∧
  ∀ (v_33 : Nat × List UInt8 × Bool × Nat × List Int),
  (((↑v_33.fst : Int) ≤ nmb (65535 : Int) (1048576 : Int) (1048576 : Int) b ∧ nmb (65535 : Int) (1048576 : Int) (1048576 : Int) b ≤ (8 : Int)) ∧ b.length ≤ (1000000 : Nat) ∧ v_33.snd.fst.length ≤ b.length ∧ v_33.snd.snd.snd.snd.length = v_33.snd.snd.snd.fst ∧ v_33.snd.snd.snd.fst = v_33.fst ∧ CIn (65535 : Int) (1048576 : Int) (1048576 : Int) (1048576 : Int) b v_33.fst v_33.snd.snd.fst v_33.snd.fst v_33.snd.snd.snd.snd) →
  br (bif decide ((↑v_33.fst : Int) < nmb (65535 : Int) (1048576 : Int) (1048576 : Int) b) then !v_33.snd.snd.fst else false)
   ((
     (
      (
       ((0 : Int) ≤ (1048576 : Int)) ∧
       ((1048576 : Int) ≤ (9223372036854775807 : Int))) ∧
      (v_33.snd.fst.length ≤ (1000000 : Nat)) ∧
      ∀ (v_35 : Int),
      ∀ (r_36 : List UInt8),
      ∀ (bd_37 : Bool),
      (v_35 = oneV (1048576 : Int) v_33.snd.fst) →
      (r_36 = oneR (1048576 : Int) v_33.snd.fst) →
      (bd_37 = (v_33.snd.snd.fst || oneB (1048576 : Int) v_33.snd.fst)) →
      ((0 : Int) ≤ v_35 ∧ v_35 ≤ (1048576 : Int)) →
      (r_36.length ≤ v_33.snd.fst.length) →
      ((v_33.snd.snd.snd.fst + (1 : Nat)) * (8 : Nat) ≤ (140737488355328 : Nat)) ∧
      ∀ (z43 : List Int),
      (z43 = List.take v_33.snd.snd.snd.fst v_33.snd.snd.snd.snd ++ List.take (1 : Nat) (List.drop (0 : Nat) [v_35])) →
      ∀ (n45 : Int),
      (n45 = IntKind.i64.wrap ((↑v_33.fst : Int) + (1 : Int))) →
      ((-9223372036854775808 : Int) ≤ n45 ∧ n45 ≤ (9223372036854775807 : Int)) →
      ∃ (v' : Nat × List UInt8 × Bool × Nat × List Int),
      (b = b) ∧
      (nmb (65535 : Int) (1048576 : Int) (1048576 : Int) b = nmb (65535 : Int) (1048576 : Int) (1048576 : Int) b) ∧
      (n45 = (↑v'.fst : Int)) ∧
      ((0 : Int) = (0 : Int)) ∧
      ((0 : Int) = (0 : Int)) ∧
      ((0 : Int) = (0 : Int)) ∧
      (r_36 = v'.snd.fst) ∧
      (bd_37 = v'.snd.snd.fst) ∧
      (oneV (65535 : Int) b = oneV (65535 : Int) b) ∧
      (oneV (1048576 : Int) (oneR (65535 : Int) b) = oneV (1048576 : Int) (oneR (65535 : Int) b)) ∧
      (oneV (1048576 : Int) (oneR (1048576 : Int) (oneR (65535 : Int) b)) = oneV (1048576 : Int) (oneR (1048576 : Int) (oneR (65535 : Int) b))) ∧
      ((0 : Nat) = (0 : Nat)) ∧
      (v_33.snd.snd.snd.fst + (1 : Nat) = v'.snd.snd.snd.fst) ∧
      (z43 = v'.snd.snd.snd.snd) ∧
      (
       (
        ((↑v'.fst : Int) ≤ nmb (65535 : Int) (1048576 : Int) (1048576 : Int) b) ∧
        (nmb (65535 : Int) (1048576 : Int) (1048576 : Int) b ≤ (8 : Int))) ∧
       (b.length ≤ (1000000 : Nat)) ∧
       (v'.snd.fst.length ≤ b.length) ∧
       (v'.snd.snd.snd.snd.length = v'.snd.snd.snd.fst) ∧
       (v'.snd.snd.snd.fst = v'.fst) ∧
       (CIn (65535 : Int) (1048576 : Int) (1048576 : Int) (1048576 : Int) b v'.fst v'.snd.snd.fst v'.snd.fst v'.snd.snd.snd.snd)) ∧
      ((nmb (65535 : Int) (1048576 : Int) (1048576 : Int) b - (↑v'.fst : Int)).toNat < (nmb (65535 : Int) (1048576 : Int) (1048576 : Int) b - (↑v_33.fst : Int)).toNat)) ∧
     (
      ((0 : Int) ≤ (1048576 : Int)) ∧
      ((1048576 : Int) ≤ (9223372036854775807 : Int))) ∧
     (v_33.snd.fst.length ≤ (1000000 : Nat)) ∧
     ∀ (v_48 : Int),
     ∀ (r_49 : List UInt8),
     ∀ (bd_50 : Bool),
     (v_48 = oneV (1048576 : Int) v_33.snd.fst) →
     (r_49 = oneR (1048576 : Int) v_33.snd.fst) →
     (bd_50 = (v_33.snd.snd.fst || oneB (1048576 : Int) v_33.snd.fst)) →
     ((0 : Int) ≤ v_48 ∧ v_48 ≤ (1048576 : Int)) →
     (r_49.length ≤ v_33.snd.fst.length) →
     ((v_33.snd.snd.snd.fst + (1 : Nat)) * (8 : Nat) ≤ (140737488355328 : Nat)) ∧
     ∀ (z56 : List Int),
     (z56 = List.take v_33.snd.snd.snd.fst v_33.snd.snd.snd.snd ++ List.take (1 : Nat) (List.drop (0 : Nat) [v_48])) →
     ∀ (n58 : Int),
     (n58 = IntKind.i64.wrap ((↑v_33.fst : Int) + (1 : Int))) →
     ((-9223372036854775808 : Int) ≤ n58 ∧ n58 ≤ (9223372036854775807 : Int)) →
     ∃ (v' : Nat × List UInt8 × Bool × Nat × List Int),
     (b = b) ∧
     (nmb (65535 : Int) (1048576 : Int) (1048576 : Int) b = nmb (65535 : Int) (1048576 : Int) (1048576 : Int) b) ∧
     (n58 = (↑v'.fst : Int)) ∧
     ((0 : Int) = (0 : Int)) ∧
     ((0 : Int) = (0 : Int)) ∧
     ((0 : Int) = (0 : Int)) ∧
     (r_49 = v'.snd.fst) ∧
     (bd_50 = v'.snd.snd.fst) ∧
     (oneV (65535 : Int) b = oneV (65535 : Int) b) ∧
     (oneV (1048576 : Int) (oneR (65535 : Int) b) = oneV (1048576 : Int) (oneR (65535 : Int) b)) ∧
     (oneV (1048576 : Int) (oneR (1048576 : Int) (oneR (65535 : Int) b)) = oneV (1048576 : Int) (oneR (1048576 : Int) (oneR (65535 : Int) b))) ∧
     ((0 : Nat) = (0 : Nat)) ∧
     (v_33.snd.snd.snd.fst + (1 : Nat) = v'.snd.snd.snd.fst) ∧
     (z56 = v'.snd.snd.snd.snd) ∧
     (
      (
       ((↑v'.fst : Int) ≤ nmb (65535 : Int) (1048576 : Int) (1048576 : Int) b) ∧
       (nmb (65535 : Int) (1048576 : Int) (1048576 : Int) b ≤ (8 : Int))) ∧
      (b.length ≤ (1000000 : Nat)) ∧
      (v'.snd.fst.length ≤ b.length) ∧
      (v'.snd.snd.snd.snd.length = v'.snd.snd.snd.fst) ∧
      (v'.snd.snd.snd.fst = v'.fst) ∧
      (CIn (65535 : Int) (1048576 : Int) (1048576 : Int) (1048576 : Int) b v'.fst v'.snd.snd.fst v'.snd.fst v'.snd.snd.snd.snd)) ∧
     ((nmb (65535 : Int) (1048576 : Int) (1048576 : Int) b - (↑v'.fst : Int)).toNat < (nmb (65535 : Int) (1048576 : Int) (1048576 : Int) b - (↑v_33.fst : Int)).toNat)) ∧
    (
     ((0 : Int) ≤ (1048576 : Int)) ∧
     ((1048576 : Int) ≤ (9223372036854775807 : Int))) ∧
    (v_33.snd.fst.length ≤ (1000000 : Nat)) ∧
    ∀ (v_61 : Int),
    ∀ (r_62 : List UInt8),
    ∀ (bd_63 : Bool),
    (v_61 = oneV (1048576 : Int) v_33.snd.fst) →
    (r_62 = oneR (1048576 : Int) v_33.snd.fst) →
    (bd_63 = (v_33.snd.snd.fst || oneB (1048576 : Int) v_33.snd.fst)) →
    ((0 : Int) ≤ v_61 ∧ v_61 ≤ (1048576 : Int)) →
    (r_62.length ≤ v_33.snd.fst.length) →
    ((v_33.snd.snd.snd.fst + (1 : Nat)) * (8 : Nat) ≤ (140737488355328 : Nat)) ∧
    ∀ (z69 : List Int),
    (z69 = List.take v_33.snd.snd.snd.fst v_33.snd.snd.snd.snd ++ List.take (1 : Nat) (List.drop (0 : Nat) [v_61])) →
    ∀ (n71 : Int),
    (n71 = IntKind.i64.wrap ((↑v_33.fst : Int) + (1 : Int))) →
    ((-9223372036854775808 : Int) ≤ n71 ∧ n71 ≤ (9223372036854775807 : Int)) →
    ∃ (v' : Nat × List UInt8 × Bool × Nat × List Int),
    (b = b) ∧
    (nmb (65535 : Int) (1048576 : Int) (1048576 : Int) b = nmb (65535 : Int) (1048576 : Int) (1048576 : Int) b) ∧
    (n71 = (↑v'.fst : Int)) ∧
    ((0 : Int) = (0 : Int)) ∧
    ((0 : Int) = (0 : Int)) ∧
    ((0 : Int) = (0 : Int)) ∧
    (r_62 = v'.snd.fst) ∧
    (bd_63 = v'.snd.snd.fst) ∧
    (oneV (65535 : Int) b = oneV (65535 : Int) b) ∧
    (oneV (1048576 : Int) (oneR (65535 : Int) b) = oneV (1048576 : Int) (oneR (65535 : Int) b)) ∧
    (oneV (1048576 : Int) (oneR (1048576 : Int) (oneR (65535 : Int) b)) = oneV (1048576 : Int) (oneR (1048576 : Int) (oneR (65535 : Int) b))) ∧
    ((0 : Nat) = (0 : Nat)) ∧
    (v_33.snd.snd.snd.fst + (1 : Nat) = v'.snd.snd.snd.fst) ∧
    (z69 = v'.snd.snd.snd.snd) ∧
    (
     (
      ((↑v'.fst : Int) ≤ nmb (65535 : Int) (1048576 : Int) (1048576 : Int) b) ∧
      (nmb (65535 : Int) (1048576 : Int) (1048576 : Int) b ≤ (8 : Int))) ∧
     (b.length ≤ (1000000 : Nat)) ∧
     (v'.snd.fst.length ≤ b.length) ∧
     (v'.snd.snd.snd.snd.length = v'.snd.snd.snd.fst) ∧
     (v'.snd.snd.snd.fst = v'.fst) ∧
     (CIn (65535 : Int) (1048576 : Int) (1048576 : Int) (1048576 : Int) b v'.fst v'.snd.snd.fst v'.snd.fst v'.snd.snd.snd.snd)) ∧
    ((nmb (65535 : Int) (1048576 : Int) (1048576 : Int) b - (↑v'.fst : Int)).toNat < (nmb (65535 : Int) (1048576 : Int) (1048576 : Int) b - (↑v_33.fst : Int)).toNat))
   (br (v_33.snd.snd.fst)
     ((k (AV.tup [AV.agg [AV.int IntKind.i64 (0 : Int), AV.int IntKind.i64 (0 : Int), AV.int IntKind.i64 (0 : Int), AV.nilsl], AV.int IntKind.i64 (8 : Int)]) [] []))
     (((List.take v_33.snd.snd.snd.fst (List.drop (0 : Nat) v_33.snd.snd.snd.snd)).length ≤ (1000000 : Nat)) ∧
      ∀ (e_74 : Int),
      ∀ (ys_75 : List UInt8),
      ∀ (n_76 : Nat),
      (e_74 = cE (oneV (65535 : Int) b) (oneV (1048576 : Int) (oneR (65535 : Int) b)) (oneV (1048576 : Int) (oneR (1048576 : Int) (oneR (65535 : Int) b))) (List.take v_33.snd.snd.snd.fst (List.drop (0 : Nat) v_33.snd.snd.snd.snd))) →
      (ys_75 = cO (oneV (65535 : Int) b) (oneV (1048576 : Int) (oneR (65535 : Int) b)) (oneV (1048576 : Int) (oneR (1048576 : Int) (oneR (65535 : Int) b))) (List.take v_33.snd.snd.snd.fst (List.drop (0 : Nat) v_33.snd.snd.snd.snd))) →
      (ys_75.length = n_76) →
      br (bif e_74 != (0 : Int) then true else !{ data := (List.take n_76 (List.drop (0 : Nat) ys_75)).toArray : ByteArray }.data.toList == { data := b.toArray : ByteArray }.data.toList)
       ((k (AV.tup [AV.agg [AV.int IntKind.i64 (0 : Int), AV.int IntKind.i64 (0 : Int), AV.int IntKind.i64 (0 : Int), AV.nilsl], AV.int IntKind.i64 (8 : Int)]) [] []))
       ((k (AV.tup [AV.agg [AV.int IntKind.i64 (oneV (65535 : Int) b), AV.int IntKind.i64 (oneV (1048576 : Int) (oneR (65535 : Int) b)), AV.int IntKind.i64 (oneV (1048576 : Int) (oneR (1048576 : Int) (oneR (65535 : Int) b))), AV.row (1 : Nat) (0 : Nat) (0 : Nat) v_33.snd.snd.snd.fst], AV.int IntKind.i64 (0 : Int)]) [] [Blk.row (1 : Nat) v_33.snd.snd.snd.snd])))) := by
  refine ⟨by first | omega | (dsimp only; omega), ?_⟩ -- (0 : Int) ≤ (65535 : Int) ∧ (65535 : Int) ≤ (9223372036854775807 : Int)
  refine ⟨by assumption, ?_⟩ -- b.length ≤ (1000000 : Nat)
  intro v_1
  intro r_2
  intro bd_3
  intro h1 -- v_1 = oneV (65535 : Int) b
  intro h2 -- r_2 = oneR (65535 : Int) b
  intro h3 -- bd_3 = (false || oneB (65535 : Int) b)
  simp at h3 -- bd_3 = oneB (65535 : Int) b
  intro ⟨a4, b4⟩ -- (0 : Int) ≤ v_1 ∧ v_1 ≤ (65535 : Int)
  intro h5 -- r_2.length ≤ b.length
  refine ⟨by first | omega | (dsimp only; omega), ?_⟩ -- (0 : Int) ≤ (1048576 : Int) ∧ (1048576 : Int) ≤ (9223372036854775807 : Int)
  refine ⟨by first | omega | (dsimp only; omega), ?_⟩ -- r_2.length ≤ (1000000 : Nat)
  intro v_9
  intro r_10
  intro bd_11
  intro h6 -- v_9 = oneV (1048576 : Int) r_2
  intro h7 -- r_10 = oneR (1048576 : Int) r_2
  intro h8 -- bd_11 = (bd_3 || oneB (1048576 : Int) r_2)
  intro ⟨a9, b9⟩ -- (0 : Int) ≤ v_9 ∧ v_9 ≤ (1048576 : Int)
  intro h10 -- r_10.length ≤ r_2.length
  refine ⟨by first | omega | (dsimp only; omega), ?_⟩ -- (0 : Int) ≤ (1048576 : Int) ∧ (1048576 : Int) ≤ (9223372036854775807 : Int)
  refine ⟨by first | omega | (dsimp only; omega), ?_⟩ -- r_10.length ≤ (1000000 : Nat)
  intro v_17
  intro r_18
  intro bd_19
  intro h11 -- v_17 = oneV (1048576 : Int) r_10
  intro h12 -- r_18 = oneR (1048576 : Int) r_10
  intro h13 -- bd_19 = (bd_11 || oneB (1048576 : Int) r_10)
  intro ⟨a14, b14⟩ -- (0 : Int) ≤ v_17 ∧ v_17 ≤ (1048576 : Int)
  intro h15 -- r_18.length ≤ r_10.length
  refine ⟨by first | omega | (dsimp only; omega), ?_⟩ -- (0 : Int) ≤ (8 : Int) ∧ (8 : Int) ≤ (9223372036854775807 : Int)
  refine ⟨by first | omega | (dsimp only; omega), ?_⟩ -- r_18.length ≤ (1000000 : Nat)
  intro v_25
  intro r_26
  intro bd_27
  intro h16 -- v_25 = oneV (8 : Int) r_18
  intro h17 -- r_26 = oneR (8 : Int) r_18
  intro h18 -- bd_27 = (bd_19 || oneB (8 : Int) r_18)
  intro ⟨a19, b19⟩ -- (0 : Int) ≤ v_25 ∧ v_25 ≤ (8 : Int)
  intro h20 -- r_26.length ≤ r_18.length
  refine ⟨?_, ?_⟩
  · -- left
    refine ⟨((0 : Nat), r_26, bd_27, (0 : Nat), []), ?_⟩
    refine ⟨by first | with_reducible rfl | rfl, ?_⟩ -- b = b
    have h21 : v_25 = nmb (65535 : Int) (1048576 : Int) (1048576 : Int) b := by
      rw [h16, h12, h7, h2]; rfl
    refine ⟨h21, ?_⟩
    refine ⟨by show (0 : Int) = (↑(0 : Nat) : Int); omega, ?_⟩ -- (0 : Int) = (↑(0 : Nat) : Int)
    refine ⟨by first | with_reducible rfl | rfl, ?_⟩ -- (0 : Int) = (0 : Int)
    refine ⟨by first | with_reducible rfl | rfl, ?_⟩ -- (0 : Int) = (0 : Int)
    refine ⟨by first | with_reducible rfl | rfl, ?_⟩ -- (0 : Int) = (0 : Int)
    refine ⟨by first | with_reducible rfl | rfl, ?_⟩ -- r_26 = r_26
    refine ⟨by first | with_reducible rfl | rfl, ?_⟩ -- bd_27 = bd_27
    refine ⟨by show v_1 = oneV (65535 : Int) b; assumption, ?_⟩ -- v_1 = oneV (65535 : Int) b
    have h22 : v_9 = oneV (1048576 : Int) (oneR (65535 : Int) b) := by
      rw [h6, h2]
    refine ⟨h22, ?_⟩
    have h23 : v_17 = oneV (1048576 : Int) (oneR (1048576 : Int) (oneR (65535 : Int) b)) := by
      rw [h11, h7, h2]
    refine ⟨h23, ?_⟩
    refine ⟨by first | with_reducible rfl | rfl, ?_⟩ -- (0 : Nat) = (0 : Nat)
    refine ⟨by first | with_reducible rfl | rfl, ?_⟩ -- (0 : Nat) = (0 : Nat)
    refine ⟨by first | with_reducible rfl | rfl, ?_⟩ -- [] = []
    refine ⟨by first | omega | (dsimp only; omega), ?_⟩ -- (↑(0 : Nat) : Int) ≤ nmb (65535 : Int) (1048576 : Int) (1048576 : Int) b ∧ nmb (65535 : Int) (1048576 : Int) (1048576 : Int) b ≤ (8 : Int)
    refine ⟨by show b.length ≤ (1000000 : Nat); assumption, ?_⟩ -- b.length ≤ (1000000 : Nat)
    refine ⟨by show r_26.length ≤ b.length; omega, ?_⟩ -- r_26.length ≤ b.length
    refine ⟨by first | with_reducible rfl | rfl, ?_⟩ -- (0 : Nat) = (0 : Nat)
    refine ⟨by first | with_reducible rfl | rfl, ?_⟩ -- (0 : Nat) = (0 : Nat)
    -- CIn (65535 : Int) (1048576 : Int) (1048576 : Int) (1048576 : Int) b (0 : Nat) bd_27 r_26 []
    exact cin_0 (by rw [h18, h13, h8, h3, h12, h7, h2]) (by rw [h17, h12, h7, h2])
  intro v_33
  intro h24 -- ((↑v_33.fst : Int) ≤ nmb (65535 : Int) (1048576 : Int) (1048576 : Int) b ∧ nmb (65535 : Int) (1048576 : Int) (1048576 : Int) b ≤ (8 : Int)) ∧ b.length ≤ (1000000 : Nat) ∧ v_33.snd.fst.length ≤ b.length ∧ v_33.snd.snd.snd.snd.length = v_33.snd.snd.snd.fst ∧ v_33.snd.snd.snd.fst = v_33.fst ∧ CIn (65535 : Int) (1048576 : Int) (1048576 : Int) (1048576 : Int) b v_33.fst v_33.snd.snd.fst v_33.snd.fst v_33.snd.snd.snd.snd
  refine br_intro (fun c25 => ?_) (fun c25 => ?_) -- bif decide ((↑v_33.fst : Int) < nmb (65535 : Int) (1048576 : Int) (1048576 : Int) b) then !v_33.snd.snd.fst else false
  · -- yes
    simp at c25 -- (↑v_33.fst : Int) < nmb (65535 : Int) (1048576 : Int) (1048576 : Int) b ∧ v_33.snd.snd.fst = false
    refine ⟨?_, ?_⟩
    · -- left
      refine ⟨?_, ?_⟩
      · -- left
        refine ⟨by first | omega | (dsimp only; omega), ?_⟩ -- (0 : Int) ≤ (1048576 : Int) ∧ (1048576 : Int) ≤ (9223372036854775807 : Int)
        refine ⟨by first | omega | (dsimp only; omega), ?_⟩ -- v_33.snd.fst.length ≤ (1000000 : Nat)
        intro v_35
        intro r_36
        intro bd_37
        intro h26 -- v_35 = oneV (1048576 : Int) v_33.snd.fst
        intro h27 -- r_36 = oneR (1048576 : Int) v_33.snd.fst
        intro h28 -- bd_37 = (v_33.snd.snd.fst || oneB (1048576 : Int) v_33.snd.fst)
        intro ⟨a29, b29⟩ -- (0 : Int) ≤ v_35 ∧ v_35 ≤ (1048576 : Int)
        intro h30 -- r_36.length ≤ v_33.snd.fst.length
        refine ⟨by first | omega | (dsimp only; omega), ?_⟩ -- (v_33.snd.snd.snd.fst + (1 : Nat)) * (8 : Nat) ≤ (140737488355328 : Nat)
        intro z43
        intro qz43 -- z43 = List.take v_33.snd.snd.snd.fst v_33.snd.snd.snd.snd ++ List.take (1 : Nat) (List.drop (0 : Nat) [v_35])
        intro n45
        intro q45 -- n45 = IntKind.i64.wrap ((↑v_33.fst : Int) + (1 : Int))
        rw [IntKind.wrap_i64] at q45
        intro ⟨l45, u45⟩ -- (-9223372036854775808 : Int) ≤ n45 ∧ n45 ≤ (9223372036854775807 : Int)
        refine ⟨(v_33.snd.snd.snd.fst + (1 : Nat), r_36, bd_37, v_33.snd.snd.snd.fst + (1 : Nat), z43), ?_⟩
        refine ⟨by first | with_reducible rfl | rfl, ?_⟩ -- b = b
        refine ⟨by first | with_reducible rfl | rfl, ?_⟩ -- nmb (65535 : Int) (1048576 : Int) (1048576 : Int) b = nmb (65535 : Int) (1048576 : Int) (1048576 : Int) b
        refine ⟨by show n45 = (↑(v_33.snd.snd.snd.fst + (1 : Nat)) : Int); omega, ?_⟩ -- n45 = (↑(v_33.snd.snd.snd.fst + (1 : Nat)) : Int)
        refine ⟨by first | with_reducible rfl | rfl, ?_⟩ -- (0 : Int) = (0 : Int)
        refine ⟨by first | with_reducible rfl | rfl, ?_⟩ -- (0 : Int) = (0 : Int)
        refine ⟨by first | with_reducible rfl | rfl, ?_⟩ -- (0 : Int) = (0 : Int)
        refine ⟨by first | with_reducible rfl | rfl, ?_⟩ -- r_36 = r_36
        refine ⟨by first | with_reducible rfl | rfl, ?_⟩ -- bd_37 = bd_37
        refine ⟨by first | with_reducible rfl | rfl, ?_⟩ -- oneV (65535 : Int) b = oneV (65535 : Int) b
        refine ⟨by first | with_reducible rfl | rfl, ?_⟩ -- oneV (1048576 : Int) (oneR (65535 : Int) b) = oneV (1048576 : Int) (oneR (65535 : Int) b)
        refine ⟨by first | with_reducible rfl | rfl, ?_⟩ -- oneV (1048576 : Int) (oneR (1048576 : Int) (oneR (65535 : Int) b)) = oneV (1048576 : Int) (oneR (1048576 : Int) (oneR (65535 : Int) b))
        refine ⟨by first | with_reducible rfl | rfl, ?_⟩ -- (0 : Nat) = (0 : Nat)
        refine ⟨by first | with_reducible rfl | rfl, ?_⟩ -- v_33.snd.snd.snd.fst + (1 : Nat) = v_33.snd.snd.snd.fst + (1 : Nat)
        refine ⟨by first | with_reducible rfl | rfl, ?_⟩ -- z43 = z43
        refine ⟨?_, ?_⟩
        · -- left
          refine ⟨by first | omega | (dsimp only; omega), ?_⟩ -- (↑(v_33.snd.snd.snd.fst + (1 : Nat)) : Int) ≤ nmb (65535 : Int) (1048576 : Int) (1048576 : Int) b ∧ nmb (65535 : Int) (1048576 : Int) (1048576 : Int) b ≤ (8 : Int)
          refine ⟨by show b.length ≤ (1000000 : Nat); assumption, ?_⟩ -- b.length ≤ (1000000 : Nat)
          refine ⟨by show r_36.length ≤ b.length; omega, ?_⟩ -- r_36.length ≤ b.length
          have h31 : z43.length = v_33.snd.snd.snd.fst + (1 : Nat) := by
            rw [qz43]; simp; omega
          refine ⟨h31, ?_⟩
          refine ⟨by first | with_reducible rfl | rfl, ?_⟩ -- v_33.snd.snd.snd.fst + (1 : Nat) = v_33.snd.snd.snd.fst + (1 : Nat)
          -- CIn (65535 : Int) (1048576 : Int) (1048576 : Int) (1048576 : Int) b (v_33.snd.snd.snd.fst + (1 : Nat)) bd_37 r_36 z43
          exact cin_step h24.2.2.2.2.2 (by omega) (by omega) h28 h27 (by rw [qz43, h26, List.take_of_length_le (by omega)]; rfl)
        exact by show (nmb (65535 : Int) (1048576 : Int) (1048576 : Int) b - (↑(v_33.snd.snd.snd.fst + (1 : Nat)) : Int)).toNat < (nmb (65535 : Int) (1048576 : Int) (1048576 : Int) b - (↑v_33.fst : Int)).toNat; omega -- (nmb (65535 : Int) (1048576 : Int) (1048576 : Int) b - (↑(v_33.snd.snd.snd.fst + (1 : Nat)) : Int)).toNat < (nmb (65535 : Int) (1048576 : Int) (1048576 : Int) b - (↑v_33.fst : Int)).toNat
      refine ⟨by first | omega | (dsimp only; omega), ?_⟩ -- (0 : Int) ≤ (1048576 : Int) ∧ (1048576 : Int) ≤ (9223372036854775807 : Int)
      refine ⟨by first | omega | (dsimp only; omega), ?_⟩ -- v_33.snd.fst.length ≤ (1000000 : Nat)
      intro v_48
      intro r_49
      intro bd_50
      intro h32 -- v_48 = oneV (1048576 : Int) v_33.snd.fst
      intro h33 -- r_49 = oneR (1048576 : Int) v_33.snd.fst
      intro h34 -- bd_50 = (v_33.snd.snd.fst || oneB (1048576 : Int) v_33.snd.fst)
      intro ⟨a35, b35⟩ -- (0 : Int) ≤ v_48 ∧ v_48 ≤ (1048576 : Int)
      intro h36 -- r_49.length ≤ v_33.snd.fst.length
      refine ⟨by first | omega | (dsimp only; omega), ?_⟩ -- (v_33.snd.snd.snd.fst + (1 : Nat)) * (8 : Nat) ≤ (140737488355328 : Nat)
      intro z56
      intro qz56 -- z56 = List.take v_33.snd.snd.snd.fst v_33.snd.snd.snd.snd ++ List.take (1 : Nat) (List.drop (0 : Nat) [v_48])
      intro n58
      intro q58 -- n58 = IntKind.i64.wrap ((↑v_33.fst : Int) + (1 : Int))
      rw [IntKind.wrap_i64] at q58
      intro ⟨l58, u58⟩ -- (-9223372036854775808 : Int) ≤ n58 ∧ n58 ≤ (9223372036854775807 : Int)
      refine ⟨(v_33.snd.snd.snd.fst + (1 : Nat), r_49, bd_50, v_33.snd.snd.snd.fst + (1 : Nat), z56), ?_⟩
      refine ⟨by first | with_reducible rfl | rfl, ?_⟩ -- b = b
      refine ⟨by first | with_reducible rfl | rfl, ?_⟩ -- nmb (65535 : Int) (1048576 : Int) (1048576 : Int) b = nmb (65535 : Int) (1048576 : Int) (1048576 : Int) b
      refine ⟨by show n58 = (↑(v_33.snd.snd.snd.fst + (1 : Nat)) : Int); omega, ?_⟩ -- n58 = (↑(v_33.snd.snd.snd.fst + (1 : Nat)) : Int)
      refine ⟨by first | with_reducible rfl | rfl, ?_⟩ -- (0 : Int) = (0 : Int)
      refine ⟨by first | with_reducible rfl | rfl, ?_⟩ -- (0 : Int) = (0 : Int)
      refine ⟨by first | with_reducible rfl | rfl, ?_⟩ -- (0 : Int) = (0 : Int)
      refine ⟨by first | with_reducible rfl | rfl, ?_⟩ -- r_49 = r_49
      refine ⟨by first | with_reducible rfl | rfl, ?_⟩ -- bd_50 = bd_50
      refine ⟨by first | with_reducible rfl | rfl, ?_⟩ -- oneV (65535 : Int) b = oneV (65535 : Int) b
      refine ⟨by first | with_reducible rfl | rfl, ?_⟩ -- oneV (1048576 : Int) (oneR (65535 : Int) b) = oneV (1048576 : Int) (oneR (65535 : Int) b)
      refine ⟨by first | with_reducible rfl | rfl, ?_⟩ -- oneV (1048576 : Int) (oneR (1048576 : Int) (oneR (65535 : Int) b)) = oneV (1048576 : Int) (oneR (1048576 : Int) (oneR (65535 : Int) b))
      refine ⟨by first | with_reducible rfl | rfl, ?_⟩ -- (0 : Nat) = (0 : Nat)
      refine ⟨by first | with_reducible rfl | rfl, ?_⟩ -- v_33.snd.snd.snd.fst + (1 : Nat) = v_33.snd.snd.snd.fst + (1 : Nat)
      refine ⟨by first | with_reducible rfl | rfl, ?_⟩ -- z56 = z56
      refine ⟨?_, ?_⟩
      · -- left
        refine ⟨by first | omega | (dsimp only; omega), ?_⟩ -- (↑(v_33.snd.snd.snd.fst + (1 : Nat)) : Int) ≤ nmb (65535 : Int) (1048576 : Int) (1048576 : Int) b ∧ nmb (65535 : Int) (1048576 : Int) (1048576 : Int) b ≤ (8 : Int)
        refine ⟨by show b.length ≤ (1000000 : Nat); assumption, ?_⟩ -- b.length ≤ (1000000 : Nat)
        refine ⟨by show r_49.length ≤ b.length; omega, ?_⟩ -- r_49.length ≤ b.length
        have h37 : z56.length = v_33.snd.snd.snd.fst + (1 : Nat) := by
          rw [qz56]; simp; omega
        refine ⟨h37, ?_⟩
        refine ⟨by first | with_reducible rfl | rfl, ?_⟩ -- v_33.snd.snd.snd.fst + (1 : Nat) = v_33.snd.snd.snd.fst + (1 : Nat)
        -- CIn (65535 : Int) (1048576 : Int) (1048576 : Int) (1048576 : Int) b (v_33.snd.snd.snd.fst + (1 : Nat)) bd_50 r_49 z56
        exact cin_step h24.2.2.2.2.2 (by omega) (by omega) h34 h33 (by rw [qz56, h32, List.take_of_length_le (by omega)]; rfl)
      exact by show (nmb (65535 : Int) (1048576 : Int) (1048576 : Int) b - (↑(v_33.snd.snd.snd.fst + (1 : Nat)) : Int)).toNat < (nmb (65535 : Int) (1048576 : Int) (1048576 : Int) b - (↑v_33.fst : Int)).toNat; omega -- (nmb (65535 : Int) (1048576 : Int) (1048576 : Int) b - (↑(v_33.snd.snd.snd.fst + (1 : Nat)) : Int)).toNat < (nmb (65535 : Int) (1048576 : Int) (1048576 : Int) b - (↑v_33.fst : Int)).toNat
    refine ⟨by first | omega | (dsimp only; omega), ?_⟩ -- (0 : Int) ≤ (1048576 : Int) ∧ (1048576 : Int) ≤ (9223372036854775807 : Int)
    refine ⟨by first | omega | (dsimp only; omega), ?_⟩ -- v_33.snd.fst.length ≤ (1000000 : Nat)
    intro v_61
    intro r_62
    intro bd_63
    intro h38 -- v_61 = oneV (1048576 : Int) v_33.snd.fst
    intro h39 -- r_62 = oneR (1048576 : Int) v_33.snd.fst
    intro h40 -- bd_63 = (v_33.snd.snd.fst || oneB (1048576 : Int) v_33.snd.fst)
    intro ⟨a41, b41⟩ -- (0 : Int) ≤ v_61 ∧ v_61 ≤ (1048576 : Int)
    intro h42 -- r_62.length ≤ v_33.snd.fst.length
    refine ⟨by first | omega | (dsimp only; omega), ?_⟩ -- (v_33.snd.snd.snd.fst + (1 : Nat)) * (8 : Nat) ≤ (140737488355328 : Nat)
    intro z69
    intro qz69 -- z69 = List.take v_33.snd.snd.snd.fst v_33.snd.snd.snd.snd ++ List.take (1 : Nat) (List.drop (0 : Nat) [v_61])
    intro n71
    intro q71 -- n71 = IntKind.i64.wrap ((↑v_33.fst : Int) + (1 : Int))
    rw [IntKind.wrap_i64] at q71
    intro ⟨l71, u71⟩ -- (-9223372036854775808 : Int) ≤ n71 ∧ n71 ≤ (9223372036854775807 : Int)
    refine ⟨(v_33.snd.snd.snd.fst + (1 : Nat), r_62, bd_63, v_33.snd.snd.snd.fst + (1 : Nat), z69), ?_⟩
    refine ⟨by first | with_reducible rfl | rfl, ?_⟩ -- b = b
    refine ⟨by first | with_reducible rfl | rfl, ?_⟩ -- nmb (65535 : Int) (1048576 : Int) (1048576 : Int) b = nmb (65535 : Int) (1048576 : Int) (1048576 : Int) b
    refine ⟨by show n71 = (↑(v_33.snd.snd.snd.fst + (1 : Nat)) : Int); omega, ?_⟩ -- n71 = (↑(v_33.snd.snd.snd.fst + (1 : Nat)) : Int)
    refine ⟨by first | with_reducible rfl | rfl, ?_⟩ -- (0 : Int) = (0 : Int)
    refine ⟨by first | with_reducible rfl | rfl, ?_⟩ -- (0 : Int) = (0 : Int)
    refine ⟨by first | with_reducible rfl | rfl, ?_⟩ -- (0 : Int) = (0 : Int)
    refine ⟨by first | with_reducible rfl | rfl, ?_⟩ -- r_62 = r_62
    refine ⟨by first | with_reducible rfl | rfl, ?_⟩ -- bd_63 = bd_63
    refine ⟨by first | with_reducible rfl | rfl, ?_⟩ -- oneV (65535 : Int) b = oneV (65535 : Int) b
    refine ⟨by first | with_reducible rfl | rfl, ?_⟩ -- oneV (1048576 : Int) (oneR (65535 : Int) b) = oneV (1048576 : Int) (oneR (65535 : Int) b)
    refine ⟨by first | with_reducible rfl | rfl, ?_⟩ -- oneV (1048576 : Int) (oneR (1048576 : Int) (oneR (65535 : Int) b)) = oneV (1048576 : Int) (oneR (1048576 : Int) (oneR (65535 : Int) b))
    refine ⟨by first | with_reducible rfl | rfl, ?_⟩ -- (0 : Nat) = (0 : Nat)
    refine ⟨by first | with_reducible rfl | rfl, ?_⟩ -- v_33.snd.snd.snd.fst + (1 : Nat) = v_33.snd.snd.snd.fst + (1 : Nat)
    refine ⟨by first | with_reducible rfl | rfl, ?_⟩ -- z69 = z69
    refine ⟨?_, ?_⟩
    · -- left
      refine ⟨by first | omega | (dsimp only; omega), ?_⟩ -- (↑(v_33.snd.snd.snd.fst + (1 : Nat)) : Int) ≤ nmb (65535 : Int) (1048576 : Int) (1048576 : Int) b ∧ nmb (65535 : Int) (1048576 : Int) (1048576 : Int) b ≤ (8 : Int)
      refine ⟨by show b.length ≤ (1000000 : Nat); assumption, ?_⟩ -- b.length ≤ (1000000 : Nat)
      refine ⟨by show r_62.length ≤ b.length; omega, ?_⟩ -- r_62.length ≤ b.length
      have h43 : z69.length = v_33.snd.snd.snd.fst + (1 : Nat) := by
        rw [qz69]; simp; omega
      refine ⟨h43, ?_⟩
      refine ⟨by first | with_reducible rfl | rfl, ?_⟩ -- v_33.snd.snd.snd.fst + (1 : Nat) = v_33.snd.snd.snd.fst + (1 : Nat)
      -- CIn (65535 : Int) (1048576 : Int) (1048576 : Int) (1048576 : Int) b (v_33.snd.snd.snd.fst + (1 : Nat)) bd_63 r_62 z69
      exact cin_step h24.2.2.2.2.2 (by omega) (by omega) h40 h39 (by rw [qz69, h38, List.take_of_length_le (by omega)]; rfl)
    exact by show (nmb (65535 : Int) (1048576 : Int) (1048576 : Int) b - (↑(v_33.snd.snd.snd.fst + (1 : Nat)) : Int)).toNat < (nmb (65535 : Int) (1048576 : Int) (1048576 : Int) b - (↑v_33.fst : Int)).toNat; omega -- (nmb (65535 : Int) (1048576 : Int) (1048576 : Int) b - (↑(v_33.snd.snd.snd.fst + (1 : Nat)) : Int)).toNat < (nmb (65535 : Int) (1048576 : Int) (1048576 : Int) b - (↑v_33.fst : Int)).toNat
  · -- no
    simp at c25 -- (↑v_33.fst : Int) < nmb (65535 : Int) (1048576 : Int) (1048576 : Int) b → v_33.snd.snd.fst = true
    refine br_intro (fun c44 => ?_) (fun c44 => ?_) -- v_33.snd.snd.fst
    · -- yes
      -- k (AV.tup [AV.agg [AV.int IntKind.i64 (0 : Int), AV.int IntKind.i64 (0 : Int), AV.int IntKind.i64 (0 : Int), AV.nilsl], AV.int IntKind.i64 (8 : Int)]) [] []
      exact hk.1 (by unfold ansC; rw [h24.2.2.2.2.2.no c44])
    · -- no
      have h45 : (List.take v_33.snd.snd.snd.fst (List.drop (0 : Nat) v_33.snd.snd.snd.snd)).length ≤ (1000000 : Nat) := by
        rw [List.length_take]; omega
      refine ⟨h45, ?_⟩
      intro e_74
      intro ys_75
      intro n_76
      intro h46 -- e_74 = cE (oneV (65535 : Int) b) (oneV (1048576 : Int) (oneR (65535 : Int) b)) (oneV (1048576 : Int) (oneR (1048576 : Int) (oneR (65535 : Int) b))) (List.take v_33.snd.snd.snd.fst (List.drop (0 : Nat) v_33.snd.snd.snd.snd))
      intro h47 -- ys_75 = cO (oneV (65535 : Int) b) (oneV (1048576 : Int) (oneR (65535 : Int) b)) (oneV (1048576 : Int) (oneR (1048576 : Int) (oneR (65535 : Int) b))) (List.take v_33.snd.snd.snd.fst (List.drop (0 : Nat) v_33.snd.snd.snd.snd))
      intro h48 -- ys_75.length = n_76
      refine br_intro (fun c49 => ?_) (fun c49 => ?_) -- bif e_74 != (0 : Int) then true else !{ data := (List.take n_76 (List.drop (0 : Nat) ys_75)).toArray : ByteArray }.data.toList == { data := b.toArray : ByteArray }.data.toList
      · -- yes
        simp at c49 -- ¬e_74 = (0 : Int) ∨ ¬List.take n_76 ys_75 = b
        -- k (AV.tup [AV.agg [AV.int IntKind.i64 (0 : Int), AV.int IntKind.i64 (0 : Int), AV.int IntKind.i64 (0 : Int), AV.nilsl], AV.int IntKind.i64 (8 : Int)]) [] []
        have bf : v_33.snd.snd.fst = false := c44
        have ni : ¬ ((v_33.fst : Int) < nmb 65535 1048576 1048576 b) := fun c => Bool.noConfusion (c44.symm.trans (c25 c))
        have tl : List.take v_33.snd.snd.snd.fst (List.drop 0 v_33.snd.snd.snd.snd) = v_33.snd.snd.snd.snd := by rw [List.drop_zero, List.take_of_length_le (by omega)]
        have R := cin_end h24.2.2.2.2.2 (by omega) bf
        rw [tl] at h46 h47
        refine hk.1 ?_
        unfold ansC
        rw [R]
        dsimp only
        rw [if_neg]
        intro d
        rcases c49 with c | c
        · exact c (h46.trans d.1)
        · exact c (by rw [← h48, List.take_length, h47]; exact d.2)
      · -- no
        simp at c49 -- e_74 = (0 : Int) ∧ List.take n_76 ys_75 = b
        -- k (AV.tup [AV.agg [AV.int IntKind.i64 (oneV (65535 : Int) b), AV.int IntKind.i64 (oneV (1048576 : Int) (oneR (65535 : Int) b)), AV.int IntKind.i64 (oneV (1048576 : Int) (oneR (1048576 : Int) (oneR (65535 : Int) b))), AV.row (1 : Nat) (0 : Nat) (0 : Nat) v_33.snd.snd.snd.fst], AV.int IntKind.i64 (0 : Int)]) [] [Blk.row (1 : Nat) v_33.snd.snd.snd.snd]
        have bf : v_33.snd.snd.fst = false := c44
        have ni : ¬ ((v_33.fst : Int) < nmb 65535 1048576 1048576 b) := fun c => Bool.noConfusion (c44.symm.trans (c25 c))
        have tl : List.take v_33.snd.snd.snd.fst (List.drop 0 v_33.snd.snd.snd.snd) = v_33.snd.snd.snd.snd := by rw [List.drop_zero, List.take_of_length_le (by omega)]
        have R := cin_end h24.2.2.2.2.2 (by omega) bf
        rw [tl] at h46 h47
        have d2 := c49.2
        rw [← h48, List.take_length, h47] at d2
        exact hk.2 _ _ _ _ _ (by unfold ansC; rw [R]; dsimp only; rw [if_pos ⟨h46.symm.trans c49.1, d2⟩]) h24.2.2.2.1 (by omega)

theorem rofc_ok : Holds Try.prog 26 ofcS := by
  refine fn_sound (env := mkEnv M4) (tab_ok M4_ok) Try.func26 Try.call26 fun args k h => ?_
  match args, h with
  | [.sl 0 b], h => exact ⟨by kernel_rfl, rofcLoops b, fun _ _ => none, .cast (by kernel_rfl) (rofc_vc b h.1 k h.2)⟩
set_option maxHeartbeats 2000000 in
theorem rofr_vc (b : List UInt8) (hb : b.length ≤ (1000000 : Nat)) (k : AV → List (Option Blk) → List Blk → Prop) (hk : (ansR b = none → k (AV.tup [AV.agg [AV.int IntKind.i64 (0 : Int), AV.int IntKind.u8 (0 : Int), AV.int IntKind.i64 (0 : Int), AV.nilsl], AV.int IntKind.i64 (8 : Int)]) [] []) ∧ ∀ (s c o : Int) (l : List Int) (n : Nat), ansR b = some (s, c, o, l) → l.length = n → n ≤ (8 : Nat) → k (AV.tup [AV.agg [AV.int IntKind.i64 s, AV.int IntKind.u8 c, AV.int IntKind.i64 o, AV.row (1 : Nat) (0 : Nat) (0 : Nat) n], AV.int IntKind.i64 (0 : Int)]) [] [Blk.row (1 : Nat) l]) :
  (
   ((0 : Int) ≤ (65535 : Int)) ∧
   ((65535 : Int) ≤ (9223372036854775807 : Int))) ∧
  (b.length ≤ (1000000 : Nat)) ∧
  ∀ (v_1 : Int),
  ∀ (r_2 : List UInt8),
  ∀ (bd_3 : Bool),
  (v_1 = oneV (65535 : Int) b) →
  (r_2 = oneR (65535 : Int) b) →
  (bd_3 = (false || oneB (65535 : Int) b)) →
  ((0 : Int) ≤ v_1 ∧ v_1 ≤ (65535 : Int)) →
  (r_2.length ≤ b.length) →
  (
   ((0 : Int) ≤ (3 : Int)) ∧
   ((3 : Int) ≤ (9223372036854775807 : Int))) ∧
  (r_2.length ≤ (1000000 : Nat)) ∧
  ∀ (v_9 : Int),
  ∀ (r_10 : List UInt8),
  ∀ (bd_11 : Bool),
  (v_9 = oneV (3 : Int) r_2) →
  (r_10 = oneR (3 : Int) r_2) →
  (bd_11 = (bd_3 || oneB (3 : Int) r_2)) →
  ((0 : Int) ≤ v_9 ∧ v_9 ≤ (3 : Int)) →
  (r_10.length ≤ r_2.length) →
  ∀ (n17 : Int),
  (n17 = IntKind.u8.wrap v_9) →
  ((0 : Int) ≤ n17 ∧ n17 ≤ (255 : Int)) →
  (
   ((0 : Int) ≤ (1073741824 : Int)) ∧
   ((1073741824 : Int) ≤ (9223372036854775807 : Int))) ∧
  (r_10.length ≤ (1000000 : Nat)) ∧
  ∀ (v_20 : Int),
  ∀ (r_21 : List UInt8),
  ∀ (bd_22 : Bool),
  (v_20 = oneV (1073741824 : Int) r_10) →
  (r_21 = oneR (1073741824 : Int) r_10) →
  (bd_22 = (bd_11 || oneB (1073741824 : Int) r_10)) →
  ((0 : Int) ≤ v_20 ∧ v_20 ≤ (1073741824 : Int)) →
  (r_21.length ≤ r_10.length) →
  (
   ((0 : Int) ≤ (8 : Int)) ∧
   ((8 : Int) ≤ (9223372036854775807 : Int))) ∧
  (r_21.length ≤ (1000000 : Nat)) ∧
  ∀ (v_28 : Int),
  ∀ (r_29 : List UInt8),
  ∀ (bd_30 : Bool),
  (v_28 = oneV (8 : Int) r_21) →
  (r_29 = oneR (8 : Int) r_21) →
  (bd_30 = (bd_22 || oneB (8 : Int) r_21)) →
  ((0 : Int) ≤ v_28 ∧ v_28 ≤ (8 : Int)) →
  (r_29.length ≤ r_21.length) →
  (
   ∃ (v : Nat × List UInt8 × Bool × Nat × List Int),
   (b = b) ∧
   (v_28 = nmb (65535 : Int) (3 : Int) (1073741824 : Int) b) ∧
   ((0 : Int) = (↑v.fst : Int)) ∧
   ((0 : Int) = (0 : Int)) ∧
   ((0 : Int) = (0 : Int)) ∧
   ((0 : Int) = (0 : Int)) ∧
   (r_29 = v.snd.fst) ∧
   (bd_30 = v.snd.snd.fst) ∧
   (v_1 = oneV (65535 : Int) b) ∧
   (n17 = oneV (3 : Int) (oneR (65535 : Int) b)) ∧
   (v_20 = oneV (1073741824 : Int) (oneR (3 : Int) (oneR (65535 : Int) b))) ∧
   ((0 : Nat) = (0 : Nat)) ∧
   ((0 : Nat) = v.snd.snd.snd.fst) ∧
   ([] = v.snd.snd.snd.snd) ∧
   (
    ((↑v.fst : Int) ≤ nmb (65535 : Int) (3 : Int) (1073741824 : Int) b) ∧
    (nmb (65535 : Int) (3 : Int) (1073741824 : Int) b ≤ (8 : Int))) ∧
   (b.length ≤ (1000000 : Nat)) ∧
   (v.snd.fst.length ≤ b.length) ∧
   (v.snd.snd.snd.snd.length = v.snd.snd.snd.fst) ∧
   (v.snd.snd.snd.fst = v.fst) ∧
   (CIn (65535 : Int) (3 : Int) (1073741824 : Int) (70368744177664 : Int) b v.fst v.snd.snd.fst v.snd.fst v.snd.snd.snd.snd)) ∧
  ∀ (v_36 : Nat × List UInt8 × Bool × Nat × List Int),
  (((↑v_36.fst : Int) ≤ nmb (65535 : Int) (3 : Int) (1073741824 : Int) b ∧ nmb (65535 : Int) (3 : Int) (1073741824 : Int) b ≤ (8 : Int)) ∧ b.length ≤ (1000000 : Nat) ∧ v_36.snd.fst.length ≤ b.length ∧ v_36.snd.snd.snd.snd.length = v_36.snd.snd.snd.fst ∧ v_36.snd.snd.snd.fst = v_36.fst ∧ CIn (65535 : Int) (3 : Int) (1073741824 : Int) (70368744177664 : Int) b v_36.fst v_36.snd.snd.fst v_36.snd.fst v_36.snd.snd.snd.snd) →
  br (bif decide ((↑v_36.fst : Int) < nmb (65535 : Int) (3 : Int) (1073741824 : Int) b) then !v_36.snd.snd.fst else false)
   ((
     (
      (
       ((0 : Int) ≤ (70368744177664 : Int)) ∧
       ((70368744177664 : Int) ≤ (9223372036854775807 : Int))) ∧
      (v_36.snd.fst.length ≤ (1000000 : Nat)) ∧
      ∀ (v_38 : Int),
      ∀ (r_39 : List UInt8),
      ∀ (bd_40 : Bool),
      (v_38 = oneV (70368744177664 : Int) v_36.snd.fst) →
      (r_39 = oneR (70368744177664 : Int) v_36.snd.fst) →
      (bd_40 = (v_36.snd.snd.fst || oneB (70368744177664 : Int) v_36.snd.fst)) →
      ((0 : Int) ≤ v_38 ∧ v_38 ≤ (70368744177664 : Int)) →
      (r_39.length ≤ v_36.snd.fst.length) →
      ((v_36.snd.snd.snd.fst + (1 : Nat)) * (8 : Nat) ≤ (140737488355328 : Nat)) ∧
      ∀ (z46 : List Int),
      (z46 = List.take v_36.snd.snd.snd.fst v_36.snd.snd.snd.snd ++ List.take (1 : Nat) (List.drop (0 : Nat) [v_38])) →
      ∀ (n48 : Int),
      (n48 = IntKind.i64.wrap ((↑v_36.fst : Int) + (1 : Int))) →
      ((-9223372036854775808 : Int) ≤ n48 ∧ n48 ≤ (9223372036854775807 : Int)) →
      ∃ (v' : Nat × List UInt8 × Bool × Nat × List Int),
      (b = b) ∧
      (nmb (65535 : Int) (3 : Int) (1073741824 : Int) b = nmb (65535 : Int) (3 : Int) (1073741824 : Int) b) ∧
      (n48 = (↑v'.fst : Int)) ∧
      ((0 : Int) = (0 : Int)) ∧
      ((0 : Int) = (0 : Int)) ∧
      ((0 : Int) = (0 : Int)) ∧
      (r_39 = v'.snd.fst) ∧
      (bd_40 = v'.snd.snd.fst) ∧
      (oneV (65535 : Int) b = oneV (65535 : Int) b) ∧
      (oneV (3 : Int) (oneR (65535 : Int) b) = oneV (3 : Int) (oneR (65535 : Int) b)) ∧
      (oneV (1073741824 : Int) (oneR (3 : Int) (oneR (65535 : Int) b)) = oneV (1073741824 : Int) (oneR (3 : Int) (oneR (65535 : Int) b))) ∧
      ((0 : Nat) = (0 : Nat)) ∧
      (v_36.snd.snd.snd.fst + (1 : Nat) = v'.snd.snd.snd.fst) ∧
      (z46 = v'.snd.snd.snd.snd) ∧
      (
       (
        ((↑v'.fst : Int) ≤ nmb (65535 : Int) (3 : Int) (1073741824 : Int) b) ∧
        (nmb (65535 : Int) (3 : Int) (1073741824 : Int) b ≤ (8 : Int))) ∧
       (b.length ≤ (1000000 : Nat)) ∧
       (v'.snd.fst.length ≤ b.length) ∧
       (v'.snd.snd.snd.snd.length = v'.snd.snd.snd.fst) ∧
       (v'.snd.snd.snd.fst = v'.fst) ∧
       (CIn (65535 : Int) (3 : Int) (1073741824 : Int) (70368744177664 : Int) b v'.fst v'.snd.snd.fst v'.snd.fst v'.snd.snd.snd.snd)) ∧
      ((nmb (65535 : Int) (3 : Int) (1073741824 : Int) b - (↑v'.fst : Int)).toNat < (nmb (65535 : Int) (3 : Int) (1073741824 : Int) b - (↑v_36.fst : Int)).toNat)) ∧
     (
      ((0 : Int) ≤ (70368744177664 : Int)) ∧
      ((70368744177664 : Int) ≤ (9223372036854775807 : Int))) ∧
     (v_36.snd.fst.length ≤ (1000000 : Nat)) ∧
     ∀ (v_51 : Int),
     ∀ (r_52 : List UInt8),
     ∀ (bd_53 : Bool),
     (v_51 = oneV (70368744177664 : Int) v_36.snd.fst) →
     (r_52 = oneR (70368744177664 : Int) v_36.snd.fst) →
     (bd_53 = (v_36.snd.snd.fst || oneB (70368744177664 : Int) v_36.snd.fst)) →
     ((0 : Int) ≤ v_51 ∧ v_51 ≤ (70368744177664 : Int)) →
     (r_52.length ≤ v_36.snd.fst.length) →
     ((v_36.snd.snd.snd.fst + (1 : Nat)) * (8 : Nat) ≤ (140737488355328 : Nat)) ∧
     ∀ (z59 : List Int),
     (z59 = List.take v_36.snd.snd.snd.fst v_36.snd.snd.snd.snd ++ List.take (1 : Nat) (List.drop (0 : Nat) [v_51])) →
     ∀ (n61 : Int),
     (n61 = IntKind.i64.wrap ((↑v_36.fst : Int) + (1 : Int))) →
     ((-9223372036854775808 : Int) ≤ n61 ∧ n61 ≤ (9223372036854775807 : Int)) →
     ∃ (v' : Nat × List UInt8 × Bool × Nat × List Int),
     (b = b) ∧
     (nmb (65535 : Int) (3 : Int) (1073741824 : Int) b = nmb (65535 : Int) (3 : Int) (1073741824 : Int) b) ∧
     (n61 = (↑v'.fst : Int)) ∧
     ((0 : Int) = (0 : Int)) ∧
     ((0 : Int) = (0 : Int)) ∧
     ((0 : Int) = (0 : Int)) ∧
     (r_52 = v'.snd.fst) ∧
     (bd_53 = v'.snd.snd.fst) ∧
     (oneV (65535 : Int) b = oneV (65535 : Int) b) ∧
     (oneV (3 : Int) (oneR (65535 : Int) b) = oneV (3 : Int) (oneR (65535 : Int) b)) ∧
     (oneV (1073741824 : Int) (oneR (3 : Int) (oneR (65535 : Int) b)) = oneV (1073741824 : Int) (oneR (3 : Int) (oneR (65535 : Int) b))) ∧
     ((0 : Nat) = (0 : Nat)) ∧
     (v_36.snd.snd.snd.fst + (1 : Nat) = v'.snd.snd.snd.fst) ∧
     (z59 = v'.snd.snd.snd.snd) ∧
     (
      (
       ((↑v'.fst : Int) ≤ nmb (65535 : Int) (3 : Int) (1073741824 : Int) b) ∧
       (nmb (65535 : Int) (3 : Int) (1073741824 : Int) b ≤ (8 : Int))) ∧
      (b.length ≤ (1000000 : Nat)) ∧
      (v'.snd.fst.length ≤ b.length) ∧
      (v'.snd.snd.snd.snd.length = v'.snd.snd.snd.fst) ∧
      (v'.snd.snd.snd.fst = v'.fst) ∧
      (CIn (65535 : Int) (3 : Int) (1073741824 : Int) (70368744177664 : Int) b v'.fst v'.snd.snd.fst v'.snd.fst v'.snd.snd.snd.snd)) ∧
     ((nmb (65535 : Int) (3 : Int) (1073741824 : Int) b - (↑v'.fst : Int)).toNat < (nmb (65535 : Int) (3 : Int) (1073741824 : Int) b - (↑v_36.fst : Int)).toNat)) ∧
    (
     ((0 : Int) ≤ (70368744177664 : Int)) ∧
     ((70368744177664 : Int) ≤ (9223372036854775807 : Int))) ∧
    (v_36.snd.fst.length ≤ (1000000 : Nat)) ∧
    ∀ (v_64 : Int),
    ∀ (r_65 : List UInt8),
    ∀ (bd_66 : Bool),
    (v_64 = oneV (70368744177664 : Int) v_36.snd.fst) →
    (r_65 = oneR (70368744177664 : Int) v_36.snd.fst) →
    (bd_66 = (v_36.snd.snd.fst || oneB (70368744177664 : Int) v_36.snd.fst)) →
    ((0 : Int) ≤ v_64 ∧ v_64 ≤ (70368744177664 : Int)) →
    (r_65.length ≤ v_36.snd.fst.length) →
    ((v_36.snd.snd.snd.fst + (1 : Nat)) * (8 : Nat) ≤ (140737488355328 : Nat)) ∧
    ∀ (z72 : List Int),
    (z72 = List.take v_36.snd.snd.snd.fst v_36.snd.snd.snd.snd ++ List.take (1 : Nat) (List.drop (0 : Nat) [v_64])) →
    ∀ (n74 : Int),
    (n74 = IntKind.i64.wrap ((↑v_36.fst : Int) + (1 : Int))) →
    ((-9223372036854775808 : Int) ≤ n74 ∧ n74 ≤ (9223372036854775807 : Int)) →
    ∃ (v' : Nat × List UInt8 × Bool × Nat × List Int),
    (b = b) ∧
    (nmb (65535 : Int) (3 : Int) (1073741824 : Int) b = nmb (65535 : Int) (3 : Int) (1073741824 : Int) b) ∧
    (n74 = (↑v'.fst : Int)) ∧
    ((0 : Int) = (0 : Int)) ∧
    ((0 : Int) = (0 : Int)) ∧
    ((0 : Int) = (0 : Int)) ∧
    (r_65 = v'.snd.fst) ∧
    (bd_66 = v'.snd.snd.fst) ∧
    (oneV (65535 : Int) b = oneV (65535 : Int) b) ∧
    (oneV (3 : Int) (oneR (65535 : Int) b) = oneV (3 : Int) (oneR (65535 : Int) b)) ∧
    (oneV (1073741824 : Int) (oneR (3 : Int) (oneR (65535 : Int) b)) = oneV (1073741824 : Int) (oneR (3 : Int) (oneR (65535 : Int) b))) ∧
    ((0 : Nat) = (0 : Nat)) ∧
    (v_36.snd.snd.snd.fst + (1 : Nat) = v'.snd.snd.snd.fst) ∧
    (z72 = v'.snd.snd.snd.snd) ∧
    (
     (
      ((↑v'.fst : Int) ≤ nmb (65535 : Int) (3 : Int) (1073741824 : Int) b) ∧
      (nmb (65535 : Int) (3 : Int) (1073741824 : Int) b ≤ (8 : Int))) ∧
     (b.length ≤ (1000000 : Nat)) ∧
     (v'.snd.fst.length ≤ b.length) ∧
     (v'.snd.snd.snd.snd.length = v'.snd.snd.snd.fst) ∧
     (v'.snd.snd.snd.fst = v'.fst) ∧
     (CIn (65535 : Int) (3 : Int) (1073741824 : Int) (70368744177664 : Int) b v'.fst v'.snd.snd.fst v'.snd.fst v'.snd.snd.snd.snd)) ∧
    ((nmb (65535 : Int) (3 : Int) (1073741824 : Int) b - (↑v'.fst : Int)).toNat < (nmb (65535 : Int) (3 : Int) (1073741824 : Int) b - (↑v_36.fst : Int)).toNat))
   (br (v_36.snd.snd.fst)
     ((k (AV.tup [AV.agg [AV.int IntKind.i64 (0 : Int), AV.int IntKind.u8 (0 : Int), AV.int IntKind.i64 (0 : Int), AV.nilsl], AV.int IntKind.i64 (8 : Int)]) [] []))
     (((List.take v_36.snd.snd.snd.fst (List.drop (0 : Nat) v_36.snd.snd.snd.snd)).length ≤ (1000000 : Nat)) ∧
      ∀ (e_77 : Int),
      ∀ (ys_78 : List UInt8),
      ∀ (n_79 : Nat),
      (e_77 = rE (oneV (65535 : Int) b) (oneV (3 : Int) (oneR (65535 : Int) b)) (oneV (1073741824 : Int) (oneR (3 : Int) (oneR (65535 : Int) b))) (List.take v_36.snd.snd.snd.fst (List.drop (0 : Nat) v_36.snd.snd.snd.snd))) →
      (ys_78 = rO (oneV (65535 : Int) b) (oneV (3 : Int) (oneR (65535 : Int) b)) (oneV (1073741824 : Int) (oneR (3 : Int) (oneR (65535 : Int) b))) (List.take v_36.snd.snd.snd.fst (List.drop (0 : Nat) v_36.snd.snd.snd.snd))) →
      (ys_78.length = n_79) →
      br (bif e_77 != (0 : Int) then true else !{ data := (List.take n_79 (List.drop (0 : Nat) ys_78)).toArray : ByteArray }.data.toList == { data := b.toArray : ByteArray }.data.toList)
       ((k (AV.tup [AV.agg [AV.int IntKind.i64 (0 : Int), AV.int IntKind.u8 (0 : Int), AV.int IntKind.i64 (0 : Int), AV.nilsl], AV.int IntKind.i64 (8 : Int)]) [] []))
       ((k (AV.tup [AV.agg [AV.int IntKind.i64 (oneV (65535 : Int) b), AV.int IntKind.u8 (oneV (3 : Int) (oneR (65535 : Int) b)), AV.int IntKind.i64 (oneV (1073741824 : Int) (oneR (3 : Int) (oneR (65535 : Int) b))), AV.row (1 : Nat) (0 : Nat) (0 : Nat) v_36.snd.snd.snd.fst], AV.int IntKind.i64 (0 : Int)]) [] [Blk.row (1 : Nat) v_36.snd.snd.snd.snd])))) := by
  refine ⟨by first | omega | (dsimp only; omega), ?_⟩ -- (0 : Int) ≤ (65535 : Int) ∧ (65535 : Int) ≤ (9223372036854775807 : Int)
  refine ⟨by assumption, ?_⟩ -- b.length ≤ (1000000 : Nat)
  intro v_1
  intro r_2
  intro bd_3
  intro h1 -- v_1 = oneV (65535 : Int) b
  intro h2 -- r_2 = oneR (65535 : Int) b
  intro h3 -- bd_3 = (false || oneB (65535 : Int) b)
  simp at h3 -- bd_3 = oneB (65535 : Int) b
  intro ⟨a4, b4⟩ -- (0 : Int) ≤ v_1 ∧ v_1 ≤ (65535 : Int)
  intro h5 -- r_2.length ≤ b.length
  refine ⟨by first | omega | (dsimp only; omega), ?_⟩ -- (0 : Int) ≤ (3 : Int) ∧ (3 : Int) ≤ (9223372036854775807 : Int)
  refine ⟨by first | omega | (dsimp only; omega), ?_⟩ -- r_2.length ≤ (1000000 : Nat)
  intro v_9
  intro r_10
  intro bd_11
  intro h6 -- v_9 = oneV (3 : Int) r_2
  intro h7 -- r_10 = oneR (3 : Int) r_2
  intro h8 -- bd_11 = (bd_3 || oneB (3 : Int) r_2)
  intro ⟨a9, b9⟩ -- (0 : Int) ≤ v_9 ∧ v_9 ≤ (3 : Int)
  intro h10 -- r_10.length ≤ r_2.length
  intro n17
  intro q17 -- n17 = IntKind.u8.wrap v_9
  rw [IntKind.wrap_u8] at q17
  intro ⟨l17, u17⟩ -- (0 : Int) ≤ n17 ∧ n17 ≤ (255 : Int)
  refine ⟨by first | omega | (dsimp only; omega), ?_⟩ -- (0 : Int) ≤ (1073741824 : Int) ∧ (1073741824 : Int) ≤ (9223372036854775807 : Int)
  refine ⟨by first | omega | (dsimp only; omega), ?_⟩ -- r_10.length ≤ (1000000 : Nat)
  intro v_20
  intro r_21
  intro bd_22
  intro h11 -- v_20 = oneV (1073741824 : Int) r_10
  intro h12 -- r_21 = oneR (1073741824 : Int) r_10
  intro h13 -- bd_22 = (bd_11 || oneB (1073741824 : Int) r_10)
  intro ⟨a14, b14⟩ -- (0 : Int) ≤ v_20 ∧ v_20 ≤ (1073741824 : Int)
  intro h15 -- r_21.length ≤ r_10.length
  refine ⟨by first | omega | (dsimp only; omega), ?_⟩ -- (0 : Int) ≤ (8 : Int) ∧ (8 : Int) ≤ (9223372036854775807 : Int)
  refine ⟨by first | omega | (dsimp only; omega), ?_⟩ -- r_21.length ≤ (1000000 : Nat)
  intro v_28
  intro r_29
  intro bd_30
  intro h16 -- v_28 = oneV (8 : Int) r_21
  intro h17 -- r_29 = oneR (8 : Int) r_21
  intro h18 -- bd_30 = (bd_22 || oneB (8 : Int) r_21)
  intro ⟨a19, b19⟩ -- (0 : Int) ≤ v_28 ∧ v_28 ≤ (8 : Int)
  intro h20 -- r_29.length ≤ r_21.length
  refine ⟨?_, ?_⟩
  · -- left
    refine ⟨((0 : Nat), r_29, bd_30, (0 : Nat), []), ?_⟩
    refine ⟨by first | with_reducible rfl | rfl, ?_⟩ -- b = b
    have h21 : v_28 = nmb (65535 : Int) (3 : Int) (1073741824 : Int) b := by
      rw [h16, h12, h7, h2]; rfl
    refine ⟨h21, ?_⟩
    refine ⟨by show (0 : Int) = (↑(0 : Nat) : Int); omega, ?_⟩ -- (0 : Int) = (↑(0 : Nat) : Int)
    refine ⟨by first | with_reducible rfl | rfl, ?_⟩ -- (0 : Int) = (0 : Int)
    refine ⟨by first | with_reducible rfl | rfl, ?_⟩ -- (0 : Int) = (0 : Int)
    refine ⟨by first | with_reducible rfl | rfl, ?_⟩ -- (0 : Int) = (0 : Int)
    refine ⟨by first | with_reducible rfl | rfl, ?_⟩ -- r_29 = r_29
    refine ⟨by first | with_reducible rfl | rfl, ?_⟩ -- bd_30 = bd_30
    refine ⟨by show v_1 = oneV (65535 : Int) b; assumption, ?_⟩ -- v_1 = oneV (65535 : Int) b
    have h22 : n17 = oneV (3 : Int) (oneR (65535 : Int) b) := by
      have := (oneV_in (m := 3) r_2 (by decide))
      rw [← h2]
      omega
    refine ⟨h22, ?_⟩
    have h23 : v_20 = oneV (1073741824 : Int) (oneR (3 : Int) (oneR (65535 : Int) b)) := by
      rw [h11, h7, h2]
    refine ⟨h23, ?_⟩
    refine ⟨by first | with_reducible rfl | rfl, ?_⟩ -- (0 : Nat) = (0 : Nat)
    refine ⟨by first | with_reducible rfl | rfl, ?_⟩ -- (0 : Nat) = (0 : Nat)
    refine ⟨by first | with_reducible rfl | rfl, ?_⟩ -- [] = []
    refine ⟨by first | omega | (dsimp only; omega), ?_⟩ -- (↑(0 : Nat) : Int) ≤ nmb (65535 : Int) (3 : Int) (1073741824 : Int) b ∧ nmb (65535 : Int) (3 : Int) (1073741824 : Int) b ≤ (8 : Int)
    refine ⟨by show b.length ≤ (1000000 : Nat); assumption, ?_⟩ -- b.length ≤ (1000000 : Nat)
    refine ⟨by show r_29.length ≤ b.length; omega, ?_⟩ -- r_29.length ≤ b.length
    refine ⟨by first | with_reducible rfl | rfl, ?_⟩ -- (0 : Nat) = (0 : Nat)
    refine ⟨by first | with_reducible rfl | rfl, ?_⟩ -- (0 : Nat) = (0 : Nat)
    -- CIn (65535 : Int) (3 : Int) (1073741824 : Int) (70368744177664 : Int) b (0 : Nat) bd_30 r_29 []
    exact cin_0 (by rw [h18, h13, h8, h3, h12, h7, h2]) (by rw [h17, h12, h7, h2])
  intro v_36
  intro h24 -- ((↑v_36.fst : Int) ≤ nmb (65535 : Int) (3 : Int) (1073741824 : Int) b ∧ nmb (65535 : Int) (3 : Int) (1073741824 : Int) b ≤ (8 : Int)) ∧ b.length ≤ (1000000 : Nat) ∧ v_36.snd.fst.length ≤ b.length ∧ v_36.snd.snd.snd.snd.length = v_36.snd.snd.snd.fst ∧ v_36.snd.snd.snd.fst = v_36.fst ∧ CIn (65535 : Int) (3 : Int) (1073741824 : Int) (70368744177664 : Int) b v_36.fst v_36.snd.snd.fst v_36.snd.fst v_36.snd.snd.snd.snd
  refine br_intro (fun c25 => ?_) (fun c25 => ?_) -- bif decide ((↑v_36.fst : Int) < nmb (65535 : Int) (3 : Int) (1073741824 : Int) b) then !v_36.snd.snd.fst else false
  · -- yes
    simp at c25 -- (↑v_36.fst : Int) < nmb (65535 : Int) (3 : Int) (1073741824 : Int) b ∧ v_36.snd.snd.fst = false
    refine ⟨?_, ?_⟩
    · -- left
      refine ⟨?_, ?_⟩
      · -- left
        refine ⟨by first | omega | (dsimp only; omega), ?_⟩ -- (0 : Int) ≤ (70368744177664 : Int) ∧ (70368744177664 : Int) ≤ (9223372036854775807 : Int)
        refine ⟨by first | omega | (dsimp only; omega), ?_⟩ -- v_36.snd.fst.length ≤ (1000000 : Nat)
        intro v_38
        intro r_39
        intro bd_40
        intro h26 -- v_38 = oneV (70368744177664 : Int) v_36.snd.fst
        intro h27 -- r_39 = oneR (70368744177664 : Int) v_36.snd.fst
        intro h28 -- bd_40 = (v_36.snd.snd.fst || oneB (70368744177664 : Int) v_36.snd.fst)
        intro ⟨a29, b29⟩ -- (0 : Int) ≤ v_38 ∧ v_38 ≤ (70368744177664 : Int)
        intro h30 -- r_39.length ≤ v_36.snd.fst.length
        refine ⟨by first | omega | (dsimp only; omega), ?_⟩ -- (v_36.snd.snd.snd.fst + (1 : Nat)) * (8 : Nat) ≤ (140737488355328 : Nat)
        intro z46
        intro qz46 -- z46 = List.take v_36.snd.snd.snd.fst v_36.snd.snd.snd.snd ++ List.take (1 : Nat) (List.drop (0 : Nat) [v_38])
        intro n48
        intro q48 -- n48 = IntKind.i64.wrap ((↑v_36.fst : Int) + (1 : Int))
        rw [IntKind.wrap_i64] at q48
        intro ⟨l48, u48⟩ -- (-9223372036854775808 : Int) ≤ n48 ∧ n48 ≤ (9223372036854775807 : Int)
        refine ⟨(v_36.snd.snd.snd.fst + (1 : Nat), r_39, bd_40, v_36.snd.snd.snd.fst + (1 : Nat), z46), ?_⟩
        refine ⟨by first | with_reducible rfl | rfl, ?_⟩ -- b = b
        refine ⟨by first | with_reducible rfl | rfl, ?_⟩ -- nmb (65535 : Int) (3 : Int) (1073741824 : Int) b = nmb (65535 : Int) (3 : Int) (1073741824 : Int) b
        refine ⟨by show n48 = (↑(v_36.snd.snd.snd.fst + (1 : Nat)) : Int); omega, ?_⟩ -- n48 = (↑(v_36.snd.snd.snd.fst + (1 : Nat)) : Int)
        refine ⟨by first | with_reducible rfl | rfl, ?_⟩ -- (0 : Int) = (0 : Int)
        refine ⟨by first | with_reducible rfl | rfl, ?_⟩ -- (0 : Int) = (0 : Int)
        refine ⟨by first | with_reducible rfl | rfl, ?_⟩ -- (0 : Int) = (0 : Int)
        refine ⟨by first | with_reducible rfl | rfl, ?_⟩ -- r_39 = r_39
        refine ⟨by first | with_reducible rfl | rfl, ?_⟩ -- bd_40 = bd_40
        refine ⟨by first | with_reducible rfl | rfl, ?_⟩ -- oneV (65535 : Int) b = oneV (65535 : Int) b
        refine ⟨by first | with_reducible rfl | rfl, ?_⟩ -- oneV (3 : Int) (oneR (65535 : Int) b) = oneV (3 : Int) (oneR (65535 : Int) b)
        refine ⟨by first | with_reducible rfl | rfl, ?_⟩ -- oneV (1073741824 : Int) (oneR (3 : Int) (oneR (65535 : Int) b)) = oneV (1073741824 : Int) (oneR (3 : Int) (oneR (65535 : Int) b))
        refine ⟨by first | with_reducible rfl | rfl, ?_⟩ -- (0 : Nat) = (0 : Nat)
        refine ⟨by first | with_reducible rfl | rfl, ?_⟩ -- v_36.snd.snd.snd.fst + (1 : Nat) = v_36.snd.snd.snd.fst + (1 : Nat)
        refine ⟨by first | with_reducible rfl | rfl, ?_⟩ -- z46 = z46
        refine ⟨?_, ?_⟩
        · -- left
          refine ⟨by first | omega | (dsimp only; omega), ?_⟩ -- (↑(v_36.snd.snd.snd.fst + (1 : Nat)) : Int) ≤ nmb (65535 : Int) (3 : Int) (1073741824 : Int) b ∧ nmb (65535 : Int) (3 : Int) (1073741824 : Int) b ≤ (8 : Int)
          refine ⟨by show b.length ≤ (1000000 : Nat); assumption, ?_⟩ -- b.length ≤ (1000000 : Nat)
          refine ⟨by show r_39.length ≤ b.length; omega, ?_⟩ -- r_39.length ≤ b.length
          have h31 : z46.length = v_36.snd.snd.snd.fst + (1 : Nat) := by
            rw [qz46]; simp; omega
          refine ⟨h31, ?_⟩
          refine ⟨by first | with_reducible rfl | rfl, ?_⟩ -- v_36.snd.snd.snd.fst + (1 : Nat) = v_36.snd.snd.snd.fst + (1 : Nat)
          -- CIn (65535 : Int) (3 : Int) (1073741824 : Int) (70368744177664 : Int) b (v_36.snd.snd.snd.fst + (1 : Nat)) bd_40 r_39 z46
          exact cin_step h24.2.2.2.2.2 (by omega) (by omega) h28 h27 (by rw [qz46, h26, List.take_of_length_le (by omega)]; rfl)
        exact by show (nmb (65535 : Int) (3 : Int) (1073741824 : Int) b - (↑(v_36.snd.snd.snd.fst + (1 : Nat)) : Int)).toNat < (nmb (65535 : Int) (3 : Int) (1073741824 : Int) b - (↑v_36.fst : Int)).toNat; omega -- (nmb (65535 : Int) (3 : Int) (1073741824 : Int) b - (↑(v_36.snd.snd.snd.fst + (1 : Nat)) : Int)).toNat < (nmb (65535 : Int) (3 : Int) (1073741824 : Int) b - (↑v_36.fst : Int)).toNat
      refine ⟨by first | omega | (dsimp only; omega), ?_⟩ -- (0 : Int) ≤ (70368744177664 : Int) ∧ (70368744177664 : Int) ≤ (9223372036854775807 : Int)
      refine ⟨by first | omega | (dsimp only; omega), ?_⟩ -- v_36.snd.fst.length ≤ (1000000 : Nat)
      intro v_51
      intro r_52
      intro bd_53
      intro h32 -- v_51 = oneV (70368744177664 : Int) v_36.snd.fst
      intro h33 -- r_52 = oneR (70368744177664 : Int) v_36.snd.fst
      intro h34 -- bd_53 = (v_36.snd.snd.fst || oneB (70368744177664 : Int) v_36.snd.fst)
      intro ⟨a35, b35⟩ -- (0 : Int) ≤ v_51 ∧ v_51 ≤ (70368744177664 : Int)
      intro h36 -- r_52.length ≤ v_36.snd.fst.length
      refine ⟨by first | omega | (dsimp only; omega), ?_⟩ -- (v_36.snd.snd.snd.fst + (1 : Nat)) * (8 : Nat) ≤ (140737488355328 : Nat)
      intro z59
      intro qz59 -- z59 = List.take v_36.snd.snd.snd.fst v_36.snd.snd.snd.snd ++ List.take (1 : Nat) (List.drop (0 : Nat) [v_51])
      intro n61
      intro q61 -- n61 = IntKind.i64.wrap ((↑v_36.fst : Int) + (1 : Int))
      rw [IntKind.wrap_i64] at q61
      intro ⟨l61, u61⟩ -- (-9223372036854775808 : Int) ≤ n61 ∧ n61 ≤ (9223372036854775807 : Int)
      refine ⟨(v_36.snd.snd.snd.fst + (1 : Nat), r_52, bd_53, v_36.snd.snd.snd.fst + (1 : Nat), z59), ?_⟩
      refine ⟨by first | with_reducible rfl | rfl, ?_⟩ -- b = b
      refine ⟨by first | with_reducible rfl | rfl, ?_⟩ -- nmb (65535 : Int) (3 : Int) (1073741824 : Int) b = nmb (65535 : Int) (3 : Int) (1073741824 : Int) b
      refine ⟨by show n61 = (↑(v_36.snd.snd.snd.fst + (1 : Nat)) : Int); omega, ?_⟩ -- n61 = (↑(v_36.snd.snd.snd.fst + (1 : Nat)) : Int)
      refine ⟨by first | with_reducible rfl | rfl, ?_⟩ -- (0 : Int) = (0 : Int)
      refine ⟨by first | with_reducible rfl | rfl, ?_⟩ -- (0 : Int) = (0 : Int)
      refine ⟨by first | with_reducible rfl | rfl, ?_⟩ -- (0 : Int) = (0 : Int)
      refine ⟨by first | with_reducible rfl | rfl, ?_⟩ -- r_52 = r_52
      refine ⟨by first | with_reducible rfl | rfl, ?_⟩ -- bd_53 = bd_53
      refine ⟨by first | with_reducible rfl | rfl, ?_⟩ -- oneV (65535 : Int) b = oneV (65535 : Int) b
      refine ⟨by first | with_reducible rfl | rfl, ?_⟩ -- oneV (3 : Int) (oneR (65535 : Int) b) = oneV (3 : Int) (oneR (65535 : Int) b)
      refine ⟨by first | with_reducible rfl | rfl, ?_⟩ -- oneV (1073741824 : Int) (oneR (3 : Int) (oneR (65535 : Int) b)) = oneV (1073741824 : Int) (oneR (3 : Int) (oneR (65535 : Int) b))
      refine ⟨by first | with_reducible rfl | rfl, ?_⟩ -- (0 : Nat) = (0 : Nat)
      refine ⟨by first | with_reducible rfl | rfl, ?_⟩ -- v_36.snd.snd.snd.fst + (1 : Nat) = v_36.snd.snd.snd.fst + (1 : Nat)
      refine ⟨by first | with_reducible rfl | rfl, ?_⟩ -- z59 = z59
      refine ⟨?_, ?_⟩
      · -- left
        refine ⟨by first | omega | (dsimp only; omega), ?_⟩ -- (↑(v_36.snd.snd.snd.fst + (1 : Nat)) : Int) ≤ nmb (65535 : Int) (3 : Int) (1073741824 : Int) b ∧ nmb (65535 : Int) (3 : Int) (1073741824 : Int) b ≤ (8 : Int)
        refine ⟨by show b.length ≤ (1000000 : Nat); assumption, ?_⟩ -- b.length ≤ (1000000 : Nat)
        refine ⟨by show r_52.length ≤ b.length; omega, ?_⟩ -- r_52.length ≤ b.length
        have h37 : z59.length = v_36.snd.snd.snd.fst + (1 : Nat) := by
          rw [qz59]; simp; omega
        refine ⟨h37, ?_⟩
        refine ⟨by first | with_reducible rfl | rfl, ?_⟩ -- v_36.snd.snd.snd.fst + (1 : Nat) = v_36.snd.snd.snd.fst + (1 : Nat)
        -- CIn (65535 : Int) (3 : Int) (1073741824 : Int) (70368744177664 : Int) b (v_36.snd.snd.snd.fst + (1 : Nat)) bd_53 r_52 z59
        exact cin_step h24.2.2.2.2.2 (by omega) (by omega) h34 h33 (by rw [qz59, h32, List.take_of_length_le (by omega)]; rfl)
      exact by show (nmb (65535 : Int) (3 : Int) (1073741824 : Int) b - (↑(v_36.snd.snd.snd.fst + (1 : Nat)) : Int)).toNat < (nmb (65535 : Int) (3 : Int) (1073741824 : Int) b - (↑v_36.fst : Int)).toNat; omega -- (nmb (65535 : Int) (3 : Int) (1073741824 : Int) b - (↑(v_36.snd.snd.snd.fst + (1 : Nat)) : Int)).toNat < (nmb (65535 : Int) (3 : Int) (1073741824 : Int) b - (↑v_36.fst : Int)).toNat
    refine ⟨by first | omega | (dsimp only; omega), ?_⟩ -- (0 : Int) ≤ (70368744177664 : Int) ∧ (70368744177664 : Int) ≤ (9223372036854775807 : Int)
    refine ⟨by first | omega | (dsimp only; omega), ?_⟩ -- v_36.snd.fst.length ≤ (1000000 : Nat)
    intro v_64
    intro r_65
    intro bd_66
    intro h38 -- v_64 = oneV (70368744177664 : Int) v_36.snd.fst
    intro h39 -- r_65 = oneR (70368744177664 : Int) v_36.snd.fst
    intro h40 -- bd_66 = (v_36.snd.snd.fst || oneB (70368744177664 : Int) v_36.snd.fst)
    intro ⟨a41, b41⟩ -- (0 : Int) ≤ v_64 ∧ v_64 ≤ (70368744177664 : Int)
    intro h42 -- r_65.length ≤ v_36.snd.fst.length
    refine ⟨by first | omega | (dsimp only; omega), ?_⟩ -- (v_36.snd.snd.snd.fst + (1 : Nat)) * (8 : Nat) ≤ (140737488355328 : Nat)
    intro z72
    intro qz72 -- z72 = List.take v_36.snd.snd.snd.fst v_36.snd.snd.snd.snd ++ List.take (1 : Nat) (List.drop (0 : Nat) [v_64])
    intro n74
    intro q74 -- n74 = IntKind.i64.wrap ((↑v_36.fst : Int) + (1 : Int))
    rw [IntKind.wrap_i64] at q74
    intro ⟨l74, u74⟩ -- (-9223372036854775808 : Int) ≤ n74 ∧ n74 ≤ (9223372036854775807 : Int)
    refine ⟨(v_36.snd.snd.snd.fst + (1 : Nat), r_65, bd_66, v_36.snd.snd.snd.fst + (1 : Nat), z72), ?_⟩
    refine ⟨by first | with_reducible rfl | rfl, ?_⟩ -- b = b
    refine ⟨by first | with_reducible rfl | rfl, ?_⟩ -- nmb (65535 : Int) (3 : Int) (1073741824 : Int) b = nmb (65535 : Int) (3 : Int) (1073741824 : Int) b
    refine ⟨by show n74 = (↑(v_36.snd.snd.snd.fst + (1 : Nat)) : Int); omega, ?_⟩ -- n74 = (↑(v_36.snd.snd.snd.fst + (1 : Nat)) : Int)
    refine ⟨by first | with_reducible rfl | rfl, ?_⟩ -- (0 : Int) = (0 : Int)
    refine ⟨by first | with_reducible rfl | rfl, ?_⟩ -- (0 : Int) = (0 : Int)
    refine ⟨by first | with_reducible rfl | rfl, ?_⟩ -- (0 : Int) = (0 : Int)
    refine ⟨by first | with_reducible rfl | rfl, ?_⟩ -- r_65 = r_65
    refine ⟨by first | with_reducible rfl | rfl, ?_⟩ -- bd_66 = bd_66
    refine ⟨by first | with_reducible rfl | rfl, ?_⟩ -- oneV (65535 : Int) b = oneV (65535 : Int) b
    refine ⟨by first | with_reducible rfl | rfl, ?_⟩ -- oneV (3 : Int) (oneR (65535 : Int) b) = oneV (3 : Int) (oneR (65535 : Int) b)
    refine ⟨by first | with_reducible rfl | rfl, ?_⟩ -- oneV (1073741824 : Int) (oneR (3 : Int) (oneR (65535 : Int) b)) = oneV (1073741824 : Int) (oneR (3 : Int) (oneR (65535 : Int) b))
    refine ⟨by first | with_reducible rfl | rfl, ?_⟩ -- (0 : Nat) = (0 : Nat)
    refine ⟨by first | with_reducible rfl | rfl, ?_⟩ -- v_36.snd.snd.snd.fst + (1 : Nat) = v_36.snd.snd.snd.fst + (1 : Nat)
    refine ⟨by first | with_reducible rfl | rfl, ?_⟩ -- z72 = z72
    refine ⟨?_, ?_⟩
    · -- left
      refine ⟨by first | omega | (dsimp only; omega), ?_⟩ -- (↑(v_36.snd.snd.snd.fst + (1 : Nat)) : Int) ≤ nmb (65535 : Int) (3 : Int) (1073741824 : Int) b ∧ nmb (65535 : Int) (3 : Int) (1073741824 : Int) b ≤ (8 : Int)
      refine ⟨by show b.length ≤ (1000000 : Nat); assumption, ?_⟩ -- b.length ≤ (1000000 : Nat)
      refine ⟨by show r_65.length ≤ b.length; omega, ?_⟩ -- r_65.length ≤ b.length
      have h43 : z72.length = v_36.snd.snd.snd.fst + (1 : Nat) := by
        rw [qz72]; simp; omega
      refine ⟨h43, ?_⟩
      refine ⟨by first | with_reducible rfl | rfl, ?_⟩ -- v_36.snd.snd.snd.fst + (1 : Nat) = v_36.snd.snd.snd.fst + (1 : Nat)
      -- CIn (65535 : Int) (3 : Int) (1073741824 : Int) (70368744177664 : Int) b (v_36.snd.snd.snd.fst + (1 : Nat)) bd_66 r_65 z72
      exact cin_step h24.2.2.2.2.2 (by omega) (by omega) h40 h39 (by rw [qz72, h38, List.take_of_length_le (by omega)]; rfl)
    exact by show (nmb (65535 : Int) (3 : Int) (1073741824 : Int) b - (↑(v_36.snd.snd.snd.fst + (1 : Nat)) : Int)).toNat < (nmb (65535 : Int) (3 : Int) (1073741824 : Int) b - (↑v_36.fst : Int)).toNat; omega -- (nmb (65535 : Int) (3 : Int) (1073741824 : Int) b - (↑(v_36.snd.snd.snd.fst + (1 : Nat)) : Int)).toNat < (nmb (65535 : Int) (3 : Int) (1073741824 : Int) b - (↑v_36.fst : Int)).toNat
  · -- no
    simp at c25 -- (↑v_36.fst : Int) < nmb (65535 : Int) (3 : Int) (1073741824 : Int) b → v_36.snd.snd.fst = true
    refine br_intro (fun c44 => ?_) (fun c44 => ?_) -- v_36.snd.snd.fst
    · -- yes
      -- k (AV.tup [AV.agg [AV.int IntKind.i64 (0 : Int), AV.int IntKind.u8 (0 : Int), AV.int IntKind.i64 (0 : Int), AV.nilsl], AV.int IntKind.i64 (8 : Int)]) [] []
      exact hk.1 (by unfold ansR; rw [h24.2.2.2.2.2.no c44])
    · -- no
      have h45 : (List.take v_36.snd.snd.snd.fst (List.drop (0 : Nat) v_36.snd.snd.snd.snd)).length ≤ (1000000 : Nat) := by
        rw [List.length_take]; omega
      refine ⟨h45, ?_⟩
      intro e_77
      intro ys_78
      intro n_79
      intro h46 -- e_77 = rE (oneV (65535 : Int) b) (oneV (3 : Int) (oneR (65535 : Int) b)) (oneV (1073741824 : Int) (oneR (3 : Int) (oneR (65535 : Int) b))) (List.take v_36.snd.snd.snd.fst (List.drop (0 : Nat) v_36.snd.snd.snd.snd))
      intro h47 -- ys_78 = rO (oneV (65535 : Int) b) (oneV (3 : Int) (oneR (65535 : Int) b)) (oneV (1073741824 : Int) (oneR (3 : Int) (oneR (65535 : Int) b))) (List.take v_36.snd.snd.snd.fst (List.drop (0 : Nat) v_36.snd.snd.snd.snd))
      intro h48 -- ys_78.length = n_79
      refine br_intro (fun c49 => ?_) (fun c49 => ?_) -- bif e_77 != (0 : Int) then true else !{ data := (List.take n_79 (List.drop (0 : Nat) ys_78)).toArray : ByteArray }.data.toList == { data := b.toArray : ByteArray }.data.toList
      · -- yes
        simp at c49 -- ¬e_77 = (0 : Int) ∨ ¬List.take n_79 ys_78 = b
        -- k (AV.tup [AV.agg [AV.int IntKind.i64 (0 : Int), AV.int IntKind.u8 (0 : Int), AV.int IntKind.i64 (0 : Int), AV.nilsl], AV.int IntKind.i64 (8 : Int)]) [] []
        have bf : v_36.snd.snd.fst = false := c44
        have ni : ¬ ((v_36.fst : Int) < nmb 65535 3 1073741824 b) := fun c => Bool.noConfusion (c44.symm.trans (c25 c))
        have tl : List.take v_36.snd.snd.snd.fst (List.drop 0 v_36.snd.snd.snd.snd) = v_36.snd.snd.snd.snd := by rw [List.drop_zero, List.take_of_length_le (by omega)]
        have R := cin_end h24.2.2.2.2.2 (by omega) bf
        rw [tl] at h46 h47
        refine hk.1 ?_
        unfold ansR
        rw [R]
        dsimp only
        rw [if_neg]
        intro d
        rcases c49 with c | c
        · exact c (h46.trans d.1)
        · exact c (by rw [← h48, List.take_length, h47]; exact d.2)
      · -- no
        simp at c49 -- e_77 = (0 : Int) ∧ List.take n_79 ys_78 = b
        -- k (AV.tup [AV.agg [AV.int IntKind.i64 (oneV (65535 : Int) b), AV.int IntKind.u8 (oneV (3 : Int) (oneR (65535 : Int) b)), AV.int IntKind.i64 (oneV (1073741824 : Int) (oneR (3 : Int) (oneR (65535 : Int) b))), AV.row (1 : Nat) (0 : Nat) (0 : Nat) v_36.snd.snd.snd.fst], AV.int IntKind.i64 (0 : Int)]) [] [Blk.row (1 : Nat) v_36.snd.snd.snd.snd]
        have bf : v_36.snd.snd.fst = false := c44
        have ni : ¬ ((v_36.fst : Int) < nmb 65535 3 1073741824 b) := fun c => Bool.noConfusion (c44.symm.trans (c25 c))
        have tl : List.take v_36.snd.snd.snd.fst (List.drop 0 v_36.snd.snd.snd.snd) = v_36.snd.snd.snd.snd := by rw [List.drop_zero, List.take_of_length_le (by omega)]
        have R := cin_end h24.2.2.2.2.2 (by omega) bf
        rw [tl] at h46 h47
        have d2 := c49.2
        rw [← h48, List.take_length, h47] at d2
        exact hk.2 _ _ _ _ _ (by unfold ansR; rw [R]; dsimp only; rw [if_pos ⟨h46.symm.trans c49.1, d2⟩]) h24.2.2.2.1 (by omega)

theorem rofr_ok : Holds Try.prog 28 ofrS := by
  refine fn_sound (env := mkEnv M4) (tab_ok M4_ok) Try.func28 Try.call28 fun args k h => ?_
  match args, h with
  | [.sl 0 b], h => exact ⟨by kernel_rfl, rofrLoops b, fun _ _ => none, .cast (by kernel_rfl) (rofr_vc b h.1 k h.2)⟩
end Go.Proofs.Ytpkfadgennejnaa

