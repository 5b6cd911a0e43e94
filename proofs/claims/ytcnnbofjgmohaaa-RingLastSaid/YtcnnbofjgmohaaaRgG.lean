/- RingLast: a ring has the last numbers that were pushed, in their order, whatever was pushed ahead. Any size, any numbers. No conditions beyond the row's own. -/
import Derived.Test.YtcnnbofjgmohaaaRgF
import Derived.Test.YtcnnbofjgmohaaaEngR
import Derived.Test.YtcnnbofjgmohaaaRows
namespace Go.Proofs.Ytcnnbofjgmohaaa
open Go Go.Eng Go.Rg Go.Proofs
set_option linter.unusedVariables false
set_option maxHeartbeats 2000000 in
theorem ringLast_vc (n : Int) (n0 : (-9223372036854775808 : Int) ≤ n) (n1 : n ≤ (9223372036854775807 : Int)) (l : List Int) (k : AV → List (Option Blk) → List Blk → Prop) (hk : k (AV.bool true) [] []) :
  ∀ (n1 : Int),
  (n1 = (↑l.length : Int)) →
  ((-9223372036854775808 : Int) ≤ n1 ∧ n1 ≤ (9223372036854775807 : Int)) →
  br (decide (n1 > (400 : Int)))
   ((k (AV.bool true) [] []))
   ((
     ((-9223372036854775808 : Int) ≤ n) ∧
     (n ≤ (9223372036854775807 : Int))) ∧
    (
     ((1 : Int) ≤ n) →
     (n ≤ (1024 : Int)) →
     ∀ (q_4 : Nat),
     ∀ (xs_5 : List Int),
     ((↑q_4 : Int) = n) →
     (xs_5 = List.replicate q_4 (0 : Int)) →
     (
      ∃ (v : Int × Int × Int × List Int),
      (n = n) ∧
      (l = l) ∧
      (true = true) ∧
      ((0 : Int) = v.fst) ∧
      ((0 : Nat) = (0 : Nat)) ∧
      (q_4 = n.toNat) ∧
      ((0 : Int) = v.snd.fst) ∧
      ((0 : Int) = v.snd.snd.fst) ∧
      (xs_5 = v.snd.snd.snd) ∧
      (
       ((0 : Int) ≤ v.fst) ∧
       (v.fst ≤ (↑l.length : Int))) ∧
      (
       (
        ((1 : Nat) ≤ n.toNat) ∧
        (n.toNat ≤ (1024 : Nat))) ∧
       (v.snd.snd.snd.length = n.toNat) ∧
       (
        ((0 : Int) ≤ v.snd.fst) ∧
        (v.snd.fst < (↑n.toNat : Int))) ∧
       ((0 : Int) ≤ v.snd.snd.fst) ∧
       (v.snd.snd.fst ≤ (↑n.toNat : Int))) ∧
      (RInv n.toNat v.snd.fst v.snd.snd.fst v.snd.snd.snd (List.take v.fst.toNat l))) ∧
     ∀ (v_8 : Int × Int × Int × List Int),
     (((0 : Int) ≤ v_8.fst ∧ v_8.fst ≤ (↑l.length : Int)) ∧ (((1 : Nat) ≤ n.toNat ∧ n.toNat ≤ (1024 : Nat)) ∧ v_8.snd.snd.snd.length = n.toNat ∧ ((0 : Int) ≤ v_8.snd.fst ∧ v_8.snd.fst < (↑n.toNat : Int)) ∧ (0 : Int) ≤ v_8.snd.snd.fst ∧ v_8.snd.snd.fst ≤ (↑n.toNat : Int)) ∧ RInv n.toNat v_8.snd.fst v_8.snd.snd.fst v_8.snd.snd.snd (List.take v_8.fst.toNat l)) →
     ∀ (n10 : Int),
     (n10 = (↑l.length : Int)) →
     ((-9223372036854775808 : Int) ≤ n10 ∧ n10 ≤ (9223372036854775807 : Int)) →
     br (decide (v_8.fst < n10))
      (((0 : Int) ≤ v_8.fst) ∧
       (v_8.fst < (↑l.length : Int)) ∧
       ∀ (n13 : Int),
       (n13 = l.getD v_8.fst.toNat (0 : Int)) →
       ((-9223372036854775808 : Int) ≤ n13 ∧ n13 ≤ (9223372036854775807 : Int)) →
       (
        (
         ((1 : Nat) ≤ n.toNat) ∧
         (n.toNat ≤ (1024 : Nat))) ∧
        (v_8.snd.snd.snd.length = n.toNat) ∧
        (
         ((0 : Int) ≤ v_8.snd.fst) ∧
         (v_8.snd.fst < (↑n.toNat : Int))) ∧
        ((0 : Int) ≤ v_8.snd.snd.fst) ∧
        (v_8.snd.snd.fst ≤ (↑n.toNat : Int))) ∧
       (
        ((-9223372036854775808 : Int) ≤ n13) ∧
        (n13 ≤ (9223372036854775807 : Int))) ∧
       ∀ (a1_16 : Int),
       ∀ (m1_17 : Int),
       ∀ (ys_18 : List Int),
       (a1_16 = (v_8.snd.fst + (1 : Int)) % (↑n.toNat : Int)) →
       (m1_17 = min (v_8.snd.snd.fst + (1 : Int)) (↑n.toNat : Int)) →
       (ys_18 = v_8.snd.snd.snd.set v_8.snd.fst.toNat n13) →
       (((1 : Nat) ≤ n.toNat ∧ n.toNat ≤ (1024 : Nat)) ∧ ys_18.length = n.toNat ∧ ((0 : Int) ≤ a1_16 ∧ a1_16 < (↑n.toNat : Int)) ∧ (0 : Int) ≤ m1_17 ∧ m1_17 ≤ (↑n.toNat : Int)) →
       ∀ (n23 : Int),
       (n23 = IntKind.i64.wrap (v_8.fst + (1 : Int))) →
       ((-9223372036854775808 : Int) ≤ n23 ∧ n23 ≤ (9223372036854775807 : Int)) →
       ∃ (v' : Int × Int × Int × List Int),
       (n = n) ∧
       (l = l) ∧
       (true = true) ∧
       (n23 = v'.fst) ∧
       ((0 : Nat) = (0 : Nat)) ∧
       (n.toNat = n.toNat) ∧
       (a1_16 = v'.snd.fst) ∧
       (m1_17 = v'.snd.snd.fst) ∧
       (ys_18 = v'.snd.snd.snd) ∧
       (
        (
         ((0 : Int) ≤ v'.fst) ∧
         (v'.fst ≤ (↑l.length : Int))) ∧
        (
         (
          ((1 : Nat) ≤ n.toNat) ∧
          (n.toNat ≤ (1024 : Nat))) ∧
         (v'.snd.snd.snd.length = n.toNat) ∧
         (
          ((0 : Int) ≤ v'.snd.fst) ∧
          (v'.snd.fst < (↑n.toNat : Int))) ∧
         ((0 : Int) ≤ v'.snd.snd.fst) ∧
         (v'.snd.snd.fst ≤ (↑n.toNat : Int))) ∧
        (RInv n.toNat v'.snd.fst v'.snd.snd.fst v'.snd.snd.snd (List.take v'.fst.toNat l))) ∧
       (((↑l.length : Int) - v'.fst).toNat < ((↑l.length : Int) - v_8.fst).toNat))
      ((
        (
         ((1 : Nat) ≤ n.toNat) ∧
         (n.toNat ≤ (1024 : Nat))) ∧
        (v_8.snd.snd.snd.length = n.toNat) ∧
        (
         ((0 : Int) ≤ v_8.snd.fst) ∧
         (v_8.snd.fst < (↑n.toNat : Int))) ∧
        ((0 : Int) ≤ v_8.snd.snd.fst) ∧
        (v_8.snd.snd.fst ≤ (↑n.toNat : Int))) ∧
       ∀ (ys_26 : List Int),
       ∀ (q_27 : Nat),
       (ys_26 = allR n.toNat v_8.snd.fst v_8.snd.snd.fst v_8.snd.snd.snd q_27) →
       ((↑q_27 : Int) = v_8.snd.snd.fst) →
       ∀ (n30 : Int),
       (n30 = (↑q_27 : Int)) →
       ∀ (n32 : Int),
       (n32 = (↑l.length : Int)) →
       ∀ (n34 : Int),
       (n34 = min n n32) →
       br (bif (0 : Int) != (0 : Int) then true else n30 != n34)
        (∀ (n36 : Int),
         (n36 = (↑l.length : Int)) →
         (true = true) ∧
         (k (AV.bool false) [] []))
        ((
          (
           ((1 : Nat) ≤ n.toNat) ∧
           (n.toNat ≤ (1024 : Nat))) ∧
          (v_8.snd.snd.snd.length = n.toNat) ∧
          (
           ((0 : Int) ≤ v_8.snd.fst) ∧
           (v_8.snd.fst < (↑n.toNat : Int))) ∧
          ((0 : Int) ≤ v_8.snd.snd.fst) ∧
          (v_8.snd.snd.fst ≤ (↑n.toNat : Int))) ∧
         ∀ (n37 : Int),
         (n37 = (↑l.length : Int)) →
         br (bif false then true else !(v_8.snd.snd.fst == (↑n.toNat : Int)) == decide (n37 ≥ n))
          ((k (AV.bool false) [] []))
          ((
            ∃ (v : Int × Int × Int × List Int × Nat × List Int),
            (l = l) ∧
            (true = true) ∧
            ((0 : Nat) = (0 : Nat)) ∧
            (q_27 = v.snd.snd.snd.snd.fst) ∧
            ((0 : Int) = v.fst) ∧
            ((0 : Nat) = (0 : Nat)) ∧
            (n.toNat = n.toNat) ∧
            (v_8.snd.fst = v.snd.fst) ∧
            (v_8.snd.snd.fst = v.snd.snd.fst) ∧
            (v_8.snd.snd.snd = v.snd.snd.snd.fst) ∧
            (ys_26 = v.snd.snd.snd.snd.snd) ∧
            (
             ((0 : Int) ≤ v.fst) ∧
             (v.fst ≤ (↑v.snd.snd.snd.snd.fst : Int))) ∧
            (
             (
              ((1 : Nat) ≤ n.toNat) ∧
              (n.toNat ≤ (1024 : Nat))) ∧
             (v.snd.snd.snd.fst.length = n.toNat) ∧
             (
              ((0 : Int) ≤ v.snd.fst) ∧
              (v.snd.fst < (↑n.toNat : Int))) ∧
             ((0 : Int) ≤ v.snd.snd.fst) ∧
             (v.snd.snd.fst ≤ (↑n.toNat : Int))) ∧
            (RInv n.toNat v.snd.fst v.snd.snd.fst v.snd.snd.snd.fst l) ∧
            (v.snd.snd.snd.snd.snd = lastL n.toNat l) ∧
            (v.snd.snd.snd.snd.snd.length = v.snd.snd.snd.snd.fst) ∧
            ((↑v.snd.snd.snd.snd.fst : Int) = v.snd.snd.fst) ∧
            ((↑v.snd.snd.snd.snd.fst : Int) = min (↑l.length : Int) n)) ∧
           ∀ (v_39 : Int × Int × Int × List Int × Nat × List Int),
           (((0 : Int) ≤ v_39.fst ∧ v_39.fst ≤ (↑v_39.snd.snd.snd.snd.fst : Int)) ∧ (((1 : Nat) ≤ n.toNat ∧ n.toNat ≤ (1024 : Nat)) ∧ v_39.snd.snd.snd.fst.length = n.toNat ∧ ((0 : Int) ≤ v_39.snd.fst ∧ v_39.snd.fst < (↑n.toNat : Int)) ∧ (0 : Int) ≤ v_39.snd.snd.fst ∧ v_39.snd.snd.fst ≤ (↑n.toNat : Int)) ∧ RInv n.toNat v_39.snd.fst v_39.snd.snd.fst v_39.snd.snd.snd.fst l ∧ v_39.snd.snd.snd.snd.snd = lastL n.toNat l ∧ v_39.snd.snd.snd.snd.snd.length = v_39.snd.snd.snd.snd.fst ∧ (↑v_39.snd.snd.snd.snd.fst : Int) = v_39.snd.snd.fst ∧ (↑v_39.snd.snd.snd.snd.fst : Int) = min (↑l.length : Int) n) →
           ∀ (n41 : Int),
           (n41 = (↑v_39.snd.snd.snd.snd.fst : Int)) →
           ((-9223372036854775808 : Int) ≤ n41 ∧ n41 ≤ (9223372036854775807 : Int)) →
           br (decide (v_39.fst < n41))
            (∀ (n44 : Int),
             (n44 = (↑v_39.snd.snd.snd.snd.fst : Int)) →
             ((-9223372036854775808 : Int) ≤ n44 ∧ n44 ≤ (9223372036854775807 : Int)) →
             ∀ (n47 : Int),
             (n47 = IntKind.i64.wrap (n44 - (1 : Int))) →
             ((-9223372036854775808 : Int) ≤ n47 ∧ n47 ≤ (9223372036854775807 : Int)) →
             ∀ (n50 : Int),
             (n50 = IntKind.i64.wrap (n47 - v_39.fst)) →
             ((-9223372036854775808 : Int) ≤ n50 ∧ n50 ≤ (9223372036854775807 : Int)) →
             (
              (
               ((1 : Nat) ≤ n.toNat) ∧
               (n.toNat ≤ (1024 : Nat))) ∧
              (v_39.snd.snd.snd.fst.length = n.toNat) ∧
              (
               ((0 : Int) ≤ v_39.snd.fst) ∧
               (v_39.snd.fst < (↑n.toNat : Int))) ∧
              ((0 : Int) ≤ v_39.snd.snd.fst) ∧
              (v_39.snd.snd.fst ≤ (↑n.toNat : Int))) ∧
             (
              ((-9223372036854775808 : Int) ≤ n50) ∧
              (n50 ≤ (9223372036854775807 : Int))) ∧
             ∀ (v_53 : Int),
             ∀ (e_54 : Int),
             (v_53 = atV n.toNat v_39.snd.fst v_39.snd.snd.fst v_39.snd.snd.snd.fst n50) →
             (e_54 = atE v_39.snd.snd.fst n50) →
             ((-9223372036854775808 : Int) ≤ v_53 ∧ v_53 ≤ (9223372036854775807 : Int)) →
             (e_54 = (0 : Int) ∨ e_54 = (2 : Int)) →
             ((0 : Int) ≤ v_39.fst) ∧
             (v_39.fst < (↑v_39.snd.snd.snd.snd.fst : Int)) ∧
             ((0 : Nat) + v_39.fst.toNat < v_39.snd.snd.snd.snd.snd.length) ∧
             ∀ (n59 : Int),
             (n59 = v_39.snd.snd.snd.snd.snd.getD ((0 : Nat) + v_39.fst.toNat) (0 : Int)) →
             ((-9223372036854775808 : Int) ≤ n59 ∧ n59 ≤ (9223372036854775807 : Int)) →
             ∀ (n62 : Int),
             (n62 = (↑l.length : Int)) →
             ((-9223372036854775808 : Int) ≤ n62 ∧ n62 ≤ (9223372036854775807 : Int)) →
             ∀ (n65 : Int),
             (n65 = (↑v_39.snd.snd.snd.snd.fst : Int)) →
             ((-9223372036854775808 : Int) ≤ n65 ∧ n65 ≤ (9223372036854775807 : Int)) →
             ∀ (n68 : Int),
             (n68 = IntKind.i64.wrap (n62 - n65)) →
             ((-9223372036854775808 : Int) ≤ n68 ∧ n68 ≤ (9223372036854775807 : Int)) →
             ∀ (n71 : Int),
             (n71 = IntKind.i64.wrap (n68 + v_39.fst)) →
             ((-9223372036854775808 : Int) ≤ n71 ∧ n71 ≤ (9223372036854775807 : Int)) →
             ((0 : Int) ≤ n71) ∧
             (n71 < (↑l.length : Int)) ∧
             ∀ (n74 : Int),
             (n74 = l.getD n71.toNat (0 : Int)) →
             ((-9223372036854775808 : Int) ≤ n74 ∧ n74 ≤ (9223372036854775807 : Int)) →
             (
              ((bif n59 != n74 then true else e_54 != (0 : Int)) = false) →
              ((0 : Int) ≤ v_39.fst) ∧
              (v_39.fst < (↑v_39.snd.snd.snd.snd.fst : Int))) ∧
             (
              ((bif n59 != n74 then true else e_54 != (0 : Int)) = false) →
              ((0 : Nat) + v_39.fst.toNat < v_39.snd.snd.snd.snd.snd.length)) ∧
             ∀ (n79 : Int),
             (n79 = v_39.snd.snd.snd.snd.snd.getD ((0 : Nat) + v_39.fst.toNat) (0 : Int)) →
             br (bif bif n59 != n74 then true else e_54 != (0 : Int) then true else v_53 != n79)
              ((k (AV.bool false) [] []))
              (∀ (n81 : Int),
               (n81 = IntKind.i64.wrap (v_39.fst + (1 : Int))) →
               ((-9223372036854775808 : Int) ≤ n81 ∧ n81 ≤ (9223372036854775807 : Int)) →
               ∃ (v' : Int × Int × Int × List Int × Nat × List Int),
               (l = l) ∧
               (true = true) ∧
               ((0 : Nat) = (0 : Nat)) ∧
               (v_39.snd.snd.snd.snd.fst = v'.snd.snd.snd.snd.fst) ∧
               (n81 = v'.fst) ∧
               ((0 : Nat) = (0 : Nat)) ∧
               (n.toNat = n.toNat) ∧
               (v_39.snd.fst = v'.snd.fst) ∧
               (v_39.snd.snd.fst = v'.snd.snd.fst) ∧
               (v_39.snd.snd.snd.fst = v'.snd.snd.snd.fst) ∧
               (v_39.snd.snd.snd.snd.snd = v'.snd.snd.snd.snd.snd) ∧
               (
                (
                 ((0 : Int) ≤ v'.fst) ∧
                 (v'.fst ≤ (↑v'.snd.snd.snd.snd.fst : Int))) ∧
                (
                 (
                  ((1 : Nat) ≤ n.toNat) ∧
                  (n.toNat ≤ (1024 : Nat))) ∧
                 (v'.snd.snd.snd.fst.length = n.toNat) ∧
                 (
                  ((0 : Int) ≤ v'.snd.fst) ∧
                  (v'.snd.fst < (↑n.toNat : Int))) ∧
                 ((0 : Int) ≤ v'.snd.snd.fst) ∧
                 (v'.snd.snd.fst ≤ (↑n.toNat : Int))) ∧
                (RInv n.toNat v'.snd.fst v'.snd.snd.fst v'.snd.snd.snd.fst l) ∧
                (v'.snd.snd.snd.snd.snd = lastL n.toNat l) ∧
                (v'.snd.snd.snd.snd.snd.length = v'.snd.snd.snd.snd.fst) ∧
                ((↑v'.snd.snd.snd.snd.fst : Int) = v'.snd.snd.fst) ∧
                ((↑v'.snd.snd.snd.snd.fst : Int) = min (↑l.length : Int) n)) ∧
               (((↑v'.snd.snd.snd.snd.fst : Int) - v'.fst).toNat < ((↑v_39.snd.snd.snd.snd.fst : Int) - v_39.fst).toNat)))
            ((k (AV.bool true) [] [])))))) ∧
    ((n < (1 : Int) ∨ (1024 : Int) < n) →
    (k (AV.bool (bif bif true then true else false then bif decide (n < (1 : Int)) then true else decide (n > (1024 : Int)) else false)) [] []))) := by
  intro n1
  intro q1 -- n1 = (↑l.length : Int)
  intro ⟨l1, u1⟩ -- (-9223372036854775808 : Int) ≤ n1 ∧ n1 ≤ (9223372036854775807 : Int)
  refine brd (fun c1 => ?_) (fun c1 => ?_) -- decide (n1 > (400 : Int))
  · -- yes
    exact by exact hk -- k (AV.bool true) [] []
  · -- no
    refine ⟨by exact ⟨by assumption, by assumption⟩, ?_⟩ -- (-9223372036854775808 : Int) ≤ n ∧ n ≤ (9223372036854775807 : Int)
    refine ⟨?_, ?_⟩
    · -- left
      intro h2 -- (1 : Int) ≤ n
      intro h3 -- n ≤ (1024 : Int)
      intro q_4
      intro xs_5
      intro h4 -- (↑q_4 : Int) = n
      intro h5 -- xs_5 = List.replicate q_4 (0 : Int)
      refine ⟨?_, ?_⟩
      · -- left
        refine ⟨((0 : Int), (0 : Int), (0 : Int), xs_5), ?_⟩
        refine ⟨by first | with_reducible rfl | rfl, ?_⟩ -- n = n
        refine ⟨by first | with_reducible rfl | rfl, ?_⟩ -- l = l
        refine ⟨by first | with_reducible rfl | rfl, ?_⟩ -- true = true
        refine ⟨by first | with_reducible rfl | rfl, ?_⟩ -- (0 : Int) = (0 : Int)
        refine ⟨by first | with_reducible rfl | rfl, ?_⟩ -- (0 : Nat) = (0 : Nat)
        refine ⟨by show q_4 = n.toNat; omega, ?_⟩ -- q_4 = n.toNat
        refine ⟨by first | with_reducible rfl | rfl, ?_⟩ -- (0 : Int) = (0 : Int)
        refine ⟨by first | with_reducible rfl | rfl, ?_⟩ -- (0 : Int) = (0 : Int)
        refine ⟨by first | with_reducible rfl | rfl, ?_⟩ -- xs_5 = xs_5
        refine ⟨by first | omega | (dsimp only; omega), ?_⟩ -- (0 : Int) ≤ (0 : Int) ∧ (0 : Int) ≤ (↑l.length : Int)
        refine ⟨?_, ?_⟩
        · -- left
          refine ⟨by first | omega | (dsimp only; omega), ?_⟩ -- (1 : Nat) ≤ n.toNat ∧ n.toNat ≤ (1024 : Nat)
          have h6 : xs_5.length = n.toNat := by
            rw [h5]; simp; omega
          refine ⟨h6, ?_⟩
          refine ⟨by first | omega | (dsimp only; omega), ?_⟩ -- (0 : Int) ≤ (0 : Int) ∧ (0 : Int) < (↑n.toNat : Int)
          refine ⟨by show (0 : Int) ≤ (0 : Int); omega, ?_⟩ -- (0 : Int) ≤ (0 : Int)
          exact by show (0 : Int) ≤ (↑n.toNat : Int); omega -- (0 : Int) ≤ (↑n.toNat : Int)
        -- RInv n.toNat (0 : Int) (0 : Int) xs_5 (List.take (Int.toNat (0 : Int)) l)
        rw [h5, show n.toNat = q_4 by omega]; exact rinv_new (by omega)
      intro v_8
      intro h7 -- ((0 : Int) ≤ v_8.fst ∧ v_8.fst ≤ (↑l.length : Int)) ∧ (((1 : Nat) ≤ n.toNat ∧ n.toNat ≤ (1024 : Nat)) ∧ v_8.snd.snd.snd.length = n.toNat ∧ ((0 : Int) ≤ v_8.snd.fst ∧ v_8.snd.fst < (↑n.toNat : Int)) ∧ (0 : Int) ≤ v_8.snd.snd.fst ∧ v_8.snd.snd.fst ≤ (↑n.toNat : Int)) ∧ RInv n.toNat v_8.snd.fst v_8.snd.snd.fst v_8.snd.snd.snd (List.take v_8.fst.toNat l)
      intro n10
      intro q10 -- n10 = (↑l.length : Int)
      intro ⟨l10, u10⟩ -- (-9223372036854775808 : Int) ≤ n10 ∧ n10 ≤ (9223372036854775807 : Int)
      refine brd (fun c8 => ?_) (fun c8 => ?_) -- decide (v_8.fst < n10)
      · -- yes
        refine ⟨by first | omega | (dsimp only; omega), ?_⟩ -- (0 : Int) ≤ v_8.fst
        refine ⟨by first | omega | (dsimp only; omega), ?_⟩ -- v_8.fst < (↑l.length : Int)
        intro n13
        intro q13 -- n13 = l.getD v_8.fst.toNat (0 : Int)
        intro ⟨l13, u13⟩ -- (-9223372036854775808 : Int) ≤ n13 ∧ n13 ≤ (9223372036854775807 : Int)
        refine ⟨?_, ?_⟩
        · -- left
          refine ⟨by first | omega | (dsimp only; omega), ?_⟩ -- (1 : Nat) ≤ n.toNat ∧ n.toNat ≤ (1024 : Nat)
          refine ⟨by first | omega | (dsimp only; omega), ?_⟩ -- v_8.snd.snd.snd.length = n.toNat
          refine ⟨by first | omega | (dsimp only; omega), ?_⟩ -- (0 : Int) ≤ v_8.snd.fst ∧ v_8.snd.fst < (↑n.toNat : Int)
          refine ⟨by first | omega | (dsimp only; omega), ?_⟩ -- (0 : Int) ≤ v_8.snd.snd.fst
          exact by omega -- v_8.snd.snd.fst ≤ (↑n.toNat : Int)
        refine ⟨by exact ⟨by assumption, by assumption⟩, ?_⟩ -- (-9223372036854775808 : Int) ≤ n13 ∧ n13 ≤ (9223372036854775807 : Int)
        intro a1_16
        intro m1_17
        intro ys_18
        intro h9 -- a1_16 = (v_8.snd.fst + (1 : Int)) % (↑n.toNat : Int)
        intro h10 -- m1_17 = min (v_8.snd.snd.fst + (1 : Int)) (↑n.toNat : Int)
        intro h11 -- ys_18 = v_8.snd.snd.snd.set v_8.snd.fst.toNat n13
        intro h12 -- ((1 : Nat) ≤ n.toNat ∧ n.toNat ≤ (1024 : Nat)) ∧ ys_18.length = n.toNat ∧ ((0 : Int) ≤ a1_16 ∧ a1_16 < (↑n.toNat : Int)) ∧ (0 : Int) ≤ m1_17 ∧ m1_17 ≤ (↑n.toNat : Int)
        intro n23
        intro q23 -- n23 = IntKind.i64.wrap (v_8.fst + (1 : Int))
        rw [IntKind.wrap_i64] at q23
        intro ⟨l23, u23⟩ -- (-9223372036854775808 : Int) ≤ n23 ∧ n23 ≤ (9223372036854775807 : Int)
        refine ⟨(n23, a1_16, m1_17, ys_18), ?_⟩
        refine ⟨by first | with_reducible rfl | rfl, ?_⟩ -- n = n
        refine ⟨by first | with_reducible rfl | rfl, ?_⟩ -- l = l
        refine ⟨by first | with_reducible rfl | rfl, ?_⟩ -- true = true
        refine ⟨by first | with_reducible rfl | rfl, ?_⟩ -- n23 = n23
        refine ⟨by first | with_reducible rfl | rfl, ?_⟩ -- (0 : Nat) = (0 : Nat)
        refine ⟨by first | with_reducible rfl | rfl, ?_⟩ -- n.toNat = n.toNat
        refine ⟨by first | with_reducible rfl | rfl, ?_⟩ -- a1_16 = a1_16
        refine ⟨by first | with_reducible rfl | rfl, ?_⟩ -- m1_17 = m1_17
        refine ⟨by first | with_reducible rfl | rfl, ?_⟩ -- ys_18 = ys_18
        refine ⟨?_, ?_⟩
        · -- left
          refine ⟨by first | omega | (dsimp only; omega), ?_⟩ -- (0 : Int) ≤ n23 ∧ n23 ≤ (↑l.length : Int)
          refine ⟨?_, ?_⟩
          · -- left
            refine ⟨by first | omega | (dsimp only; omega), ?_⟩ -- (1 : Nat) ≤ n.toNat ∧ n.toNat ≤ (1024 : Nat)
            refine ⟨by show ys_18.length = n.toNat; omega, ?_⟩ -- ys_18.length = n.toNat
            refine ⟨by first | omega | (dsimp only; omega), ?_⟩ -- (0 : Int) ≤ a1_16 ∧ a1_16 < (↑n.toNat : Int)
            refine ⟨by show (0 : Int) ≤ m1_17; omega, ?_⟩ -- (0 : Int) ≤ m1_17
            exact by show m1_17 ≤ (↑n.toNat : Int); omega -- m1_17 ≤ (↑n.toNat : Int)
          -- RInv n.toNat a1_16 m1_17 ys_18 (List.take n23.toNat l)
          rw [h9, h10, h11, show n23 = v_8.fst + 1 by omega, take_next (by omega) (by omega), ← q13]
          exact rinv_push h7.2.2 n13
        exact by show ((↑l.length : Int) - n23).toNat < ((↑l.length : Int) - v_8.fst).toNat; omega -- ((↑l.length : Int) - n23).toNat < ((↑l.length : Int) - v_8.fst).toNat
      · -- no
        refine ⟨?_, ?_⟩
        · -- left
          refine ⟨by first | omega | (dsimp only; omega), ?_⟩ -- (1 : Nat) ≤ n.toNat ∧ n.toNat ≤ (1024 : Nat)
          refine ⟨by first | omega | (dsimp only; omega), ?_⟩ -- v_8.snd.snd.snd.length = n.toNat
          refine ⟨by first | omega | (dsimp only; omega), ?_⟩ -- (0 : Int) ≤ v_8.snd.fst ∧ v_8.snd.fst < (↑n.toNat : Int)
          refine ⟨by first | omega | (dsimp only; omega), ?_⟩ -- (0 : Int) ≤ v_8.snd.snd.fst
          exact by omega -- v_8.snd.snd.fst ≤ (↑n.toNat : Int)
        intro ys_26
        intro q_27
        intro h13 -- ys_26 = allR n.toNat v_8.snd.fst v_8.snd.snd.fst v_8.snd.snd.snd q_27
        intro h14 -- (↑q_27 : Int) = v_8.snd.snd.fst
        intro n30
        intro q30 -- n30 = (↑q_27 : Int)
        intro n32
        intro q32 -- n32 = (↑l.length : Int)
        intro n34
        intro q34 -- n34 = min n n32
        refine br_intro (fun c15 => ?_) (fun c15 => ?_) -- bif (0 : Int) != (0 : Int) then true else n30 != n34
        · -- yes
          simp at c15 -- ¬n30 = n34
          intro n36
          intro q36 -- n36 = (↑l.length : Int)
          refine ⟨by with_reducible rfl, ?_⟩ -- true = true
          -- k (AV.bool false) [] []
          exfalso
          have hm := h7.2.2.hm
          rw [List.length_take] at hm
          omega
        · -- no
          simp at c15 -- n30 = n34
          refine ⟨?_, ?_⟩
          · -- left
            refine ⟨by first | omega | (dsimp only; omega), ?_⟩ -- (1 : Nat) ≤ n.toNat ∧ n.toNat ≤ (1024 : Nat)
            refine ⟨by first | omega | (dsimp only; omega), ?_⟩ -- v_8.snd.snd.snd.length = n.toNat
            refine ⟨by first | omega | (dsimp only; omega), ?_⟩ -- (0 : Int) ≤ v_8.snd.fst ∧ v_8.snd.fst < (↑n.toNat : Int)
            refine ⟨by first | omega | (dsimp only; omega), ?_⟩ -- (0 : Int) ≤ v_8.snd.snd.fst
            exact by omega -- v_8.snd.snd.fst ≤ (↑n.toNat : Int)
          intro n37
          intro q37 -- n37 = (↑l.length : Int)
          refine br_intro (fun c16 => ?_) (fun c16 => ?_) -- bif false then true else !(v_8.snd.snd.fst == (↑n.toNat : Int)) == decide (n37 ≥ n)
          · -- yes
            simp at c16 -- ¬(v_8.snd.snd.fst == max n (0 : Int)) = decide (n ≤ n37)
            -- k (AV.bool false) [] []
            exfalso
            have hm := h7.2.2.hm
            rw [List.length_take] at hm
            apply c16
            rw [Bool.eq_iff_iff]
            simp
            omega
          · -- no
            simp at c16 -- (v_8.snd.snd.fst == max n (0 : Int)) = decide (n ≤ n37)
            refine ⟨?_, ?_⟩
            · -- left
              refine ⟨((0 : Int), v_8.snd.fst, v_8.snd.snd.fst, v_8.snd.snd.snd, q_27, ys_26), ?_⟩
              refine ⟨by first | with_reducible rfl | rfl, ?_⟩ -- l = l
              refine ⟨by first | with_reducible rfl | rfl, ?_⟩ -- true = true
              refine ⟨by first | with_reducible rfl | rfl, ?_⟩ -- (0 : Nat) = (0 : Nat)
              refine ⟨by first | with_reducible rfl | rfl, ?_⟩ -- q_27 = q_27
              refine ⟨by first | with_reducible rfl | rfl, ?_⟩ -- (0 : Int) = (0 : Int)
              refine ⟨by first | with_reducible rfl | rfl, ?_⟩ -- (0 : Nat) = (0 : Nat)
              refine ⟨by first | with_reducible rfl | rfl, ?_⟩ -- n.toNat = n.toNat
              refine ⟨by first | with_reducible rfl | rfl, ?_⟩ -- v_8.snd.fst = v_8.snd.fst
              refine ⟨by first | with_reducible rfl | rfl, ?_⟩ -- v_8.snd.snd.fst = v_8.snd.snd.fst
              refine ⟨by first | with_reducible rfl | rfl, ?_⟩ -- v_8.snd.snd.snd = v_8.snd.snd.snd
              refine ⟨by first | with_reducible rfl | rfl, ?_⟩ -- ys_26 = ys_26
              refine ⟨by first | omega | (dsimp only; omega), ?_⟩ -- (0 : Int) ≤ (0 : Int) ∧ (0 : Int) ≤ (↑q_27 : Int)
              refine ⟨?_, ?_⟩
              · -- left
                refine ⟨by first | omega | (dsimp only; omega), ?_⟩ -- (1 : Nat) ≤ n.toNat ∧ n.toNat ≤ (1024 : Nat)
                refine ⟨by show v_8.snd.snd.snd.length = n.toNat; omega, ?_⟩ -- v_8.snd.snd.snd.length = n.toNat
                refine ⟨by first | omega | (dsimp only; omega), ?_⟩ -- (0 : Int) ≤ v_8.snd.fst ∧ v_8.snd.fst < (↑n.toNat : Int)
                refine ⟨by show (0 : Int) ≤ v_8.snd.snd.fst; omega, ?_⟩ -- (0 : Int) ≤ v_8.snd.snd.fst
                exact by show v_8.snd.snd.fst ≤ (↑n.toNat : Int); omega -- v_8.snd.snd.fst ≤ (↑n.toNat : Int)
              have h17 : RInv n.toNat v_8.snd.fst v_8.snd.snd.fst v_8.snd.snd.snd l := by
                have t := h7.2.2
                rw [List.take_of_length_le (by omega)] at t
                exact t
              refine ⟨h17, ?_⟩
              have h18 : ys_26 = lastL n.toNat l := by
                rw [h13]; exact allR_eq h17 h14
              refine ⟨h18, ?_⟩
              have h19 : ys_26.length = q_27 := by
                rw [h13, allR_length]
              refine ⟨h19, ?_⟩
              refine ⟨by show (↑q_27 : Int) = v_8.snd.snd.fst; assumption, ?_⟩ -- (↑q_27 : Int) = v_8.snd.snd.fst
              exact by show (↑q_27 : Int) = min (↑l.length : Int) n; omega -- (↑q_27 : Int) = min (↑l.length : Int) n
            intro v_39
            intro h20 -- ((0 : Int) ≤ v_39.fst ∧ v_39.fst ≤ (↑v_39.snd.snd.snd.snd.fst : Int)) ∧ (((1 : Nat) ≤ n.toNat ∧ n.toNat ≤ (1024 : Nat)) ∧ v_39.snd.snd.snd.fst.length = n.toNat ∧ ((0 : Int) ≤ v_39.snd.fst ∧ v_39.snd.fst < (↑n.toNat : Int)) ∧ (0 : Int) ≤ v_39.snd.snd.fst ∧ v_39.snd.snd.fst ≤ (↑n.toNat : Int)) ∧ RInv n.toNat v_39.snd.fst v_39.snd.snd.fst v_39.snd.snd.snd.fst l ∧ v_39.snd.snd.snd.snd.snd = lastL n.toNat l ∧ v_39.snd.snd.snd.snd.snd.length = v_39.snd.snd.snd.snd.fst ∧ (↑v_39.snd.snd.snd.snd.fst : Int) = v_39.snd.snd.fst ∧ (↑v_39.snd.snd.snd.snd.fst : Int) = min (↑l.length : Int) n
            intro n41
            intro q41 -- n41 = (↑v_39.snd.snd.snd.snd.fst : Int)
            intro ⟨l41, u41⟩ -- (-9223372036854775808 : Int) ≤ n41 ∧ n41 ≤ (9223372036854775807 : Int)
            refine brd (fun c21 => ?_) (fun c21 => ?_) -- decide (v_39.fst < n41)
            · -- yes
              intro n44
              intro q44 -- n44 = (↑v_39.snd.snd.snd.snd.fst : Int)
              intro ⟨l44, u44⟩ -- (-9223372036854775808 : Int) ≤ n44 ∧ n44 ≤ (9223372036854775807 : Int)
              intro n47
              intro q47 -- n47 = IntKind.i64.wrap (n44 - (1 : Int))
              rw [IntKind.wrap_i64] at q47
              intro ⟨l47, u47⟩ -- (-9223372036854775808 : Int) ≤ n47 ∧ n47 ≤ (9223372036854775807 : Int)
              intro n50
              intro q50 -- n50 = IntKind.i64.wrap (n47 - v_39.fst)
              rw [IntKind.wrap_i64] at q50
              intro ⟨l50, u50⟩ -- (-9223372036854775808 : Int) ≤ n50 ∧ n50 ≤ (9223372036854775807 : Int)
              refine ⟨?_, ?_⟩
              · -- left
                refine ⟨by first | omega | (dsimp only; omega), ?_⟩ -- (1 : Nat) ≤ n.toNat ∧ n.toNat ≤ (1024 : Nat)
                refine ⟨by first | omega | (dsimp only; omega), ?_⟩ -- v_39.snd.snd.snd.fst.length = n.toNat
                refine ⟨by first | omega | (dsimp only; omega), ?_⟩ -- (0 : Int) ≤ v_39.snd.fst ∧ v_39.snd.fst < (↑n.toNat : Int)
                refine ⟨by first | omega | (dsimp only; omega), ?_⟩ -- (0 : Int) ≤ v_39.snd.snd.fst
                exact by omega -- v_39.snd.snd.fst ≤ (↑n.toNat : Int)
              refine ⟨by exact ⟨by assumption, by assumption⟩, ?_⟩ -- (-9223372036854775808 : Int) ≤ n50 ∧ n50 ≤ (9223372036854775807 : Int)
              intro v_53
              intro e_54
              intro h22 -- v_53 = atV n.toNat v_39.snd.fst v_39.snd.snd.fst v_39.snd.snd.snd.fst n50
              intro h23 -- e_54 = atE v_39.snd.snd.fst n50
              intro ⟨a24, b24⟩ -- (-9223372036854775808 : Int) ≤ v_53 ∧ v_53 ≤ (9223372036854775807 : Int)
              intro h25 -- e_54 = (0 : Int) ∨ e_54 = (2 : Int)
              refine ⟨by first | omega | (dsimp only; omega), ?_⟩ -- (0 : Int) ≤ v_39.fst
              refine ⟨by first | omega | (dsimp only; omega), ?_⟩ -- v_39.fst < (↑v_39.snd.snd.snd.snd.fst : Int)
              refine ⟨by first | omega | (dsimp only; omega), ?_⟩ -- (0 : Nat) + v_39.fst.toNat < v_39.snd.snd.snd.snd.snd.length
              intro n59
              intro q59 -- n59 = v_39.snd.snd.snd.snd.snd.getD ((0 : Nat) + v_39.fst.toNat) (0 : Int)
              intro ⟨l59, u59⟩ -- (-9223372036854775808 : Int) ≤ n59 ∧ n59 ≤ (9223372036854775807 : Int)
              intro n62
              intro q62 -- n62 = (↑l.length : Int)
              intro ⟨l62, u62⟩ -- (-9223372036854775808 : Int) ≤ n62 ∧ n62 ≤ (9223372036854775807 : Int)
              intro n65
              intro q65 -- n65 = (↑v_39.snd.snd.snd.snd.fst : Int)
              intro ⟨l65, u65⟩ -- (-9223372036854775808 : Int) ≤ n65 ∧ n65 ≤ (9223372036854775807 : Int)
              intro n68
              intro q68 -- n68 = IntKind.i64.wrap (n62 - n65)
              rw [IntKind.wrap_i64] at q68
              intro ⟨l68, u68⟩ -- (-9223372036854775808 : Int) ≤ n68 ∧ n68 ≤ (9223372036854775807 : Int)
              intro n71
              intro q71 -- n71 = IntKind.i64.wrap (n68 + v_39.fst)
              rw [IntKind.wrap_i64] at q71
              intro ⟨l71, u71⟩ -- (-9223372036854775808 : Int) ≤ n71 ∧ n71 ≤ (9223372036854775807 : Int)
              refine ⟨by first | omega | (dsimp only; omega), ?_⟩ -- (0 : Int) ≤ n71
              refine ⟨by first | omega | (dsimp only; omega), ?_⟩ -- n71 < (↑l.length : Int)
              intro n74
              intro q74 -- n74 = l.getD n71.toNat (0 : Int)
              intro ⟨l74, u74⟩ -- (-9223372036854775808 : Int) ≤ n74 ∧ n74 ≤ (9223372036854775807 : Int)
              refine ⟨?_, ?_⟩
              · -- left
                intro h26 -- (bif n59 != n74 then true else e_54 != (0 : Int)) = false
                simp at h26 -- n59 = n74 ∧ e_54 = (0 : Int)
                refine ⟨by first | omega | (dsimp only; omega), ?_⟩ -- (0 : Int) ≤ v_39.fst
                exact by omega -- v_39.fst < (↑v_39.snd.snd.snd.snd.fst : Int)
              refine ⟨?_, ?_⟩
              · -- left
                intro h27 -- (bif n59 != n74 then true else e_54 != (0 : Int)) = false
                simp at h27 -- n59 = n74 ∧ e_54 = (0 : Int)
                exact by omega -- (0 : Nat) + v_39.fst.toNat < v_39.snd.snd.snd.snd.snd.length
              intro n79
              intro q79 -- n79 = v_39.snd.snd.snd.snd.snd.getD ((0 : Nat) + v_39.fst.toNat) (0 : Int)
              refine br_intro (fun c28 => ?_) (fun c28 => ?_) -- bif bif n59 != n74 then true else e_54 != (0 : Int) then true else v_53 != n79
              · -- yes
                simp at c28 -- (¬n59 = n74 ∨ ¬e_54 = (0 : Int)) ∨ ¬v_53 = n79
                -- k (AV.bool false) [] []
                exfalso
                have hl : (lastL n.toNat l).length = v_39.snd.snd.snd.snd.fst := by rw [← h20.2.2.2.1]; exact h20.2.2.2.2.1
                obtain ⟨A1, A2⟩ := at_eq h20.2.2.1 n50
                rw [if_pos (by omega)] at A1 A2
                rw [← h22, hl, show v_39.snd.snd.snd.snd.fst - 1 - n50.toNat = v_39.fst.toNat by omega] at A1
                rw [← h23] at A2
                have e59 : n59 = (lastL n.toNat l).getD v_39.fst.toNat 0 := by rw [q59, Nat.zero_add, h20.2.2.2.1]
                have e79 : n79 = (lastL n.toNat l).getD v_39.fst.toNat 0 := by rw [q79, Nat.zero_add, h20.2.2.2.1]
                have e74 : n74 = (lastL n.toNat l).getD v_39.fst.toNat 0 := by rw [q74, lastL_get, show n71.toNat = l.length - n.toNat + v_39.fst.toNat by omega]
                rcases c28 with (c | c) | c
                · exact c (e59.trans e74.symm)
                · exact c A2
                · exact c (A1.trans e79.symm)
              · -- no
                simp at c28 -- (n59 = n74 ∧ e_54 = (0 : Int)) ∧ v_53 = n79
                intro n81
                intro q81 -- n81 = IntKind.i64.wrap (v_39.fst + (1 : Int))
                rw [IntKind.wrap_i64] at q81
                intro ⟨l81, u81⟩ -- (-9223372036854775808 : Int) ≤ n81 ∧ n81 ≤ (9223372036854775807 : Int)
                refine ⟨(n81, v_39.snd.fst, v_39.snd.snd.fst, v_39.snd.snd.snd.fst, v_39.snd.snd.snd.snd.fst, v_39.snd.snd.snd.snd.snd), ?_⟩
                refine ⟨by first | with_reducible rfl | rfl, ?_⟩ -- l = l
                refine ⟨by first | with_reducible rfl | rfl, ?_⟩ -- true = true
                refine ⟨by first | with_reducible rfl | rfl, ?_⟩ -- (0 : Nat) = (0 : Nat)
                refine ⟨by first | with_reducible rfl | rfl, ?_⟩ -- v_39.snd.snd.snd.snd.fst = v_39.snd.snd.snd.snd.fst
                refine ⟨by first | with_reducible rfl | rfl, ?_⟩ -- n81 = n81
                refine ⟨by first | with_reducible rfl | rfl, ?_⟩ -- (0 : Nat) = (0 : Nat)
                refine ⟨by first | with_reducible rfl | rfl, ?_⟩ -- n.toNat = n.toNat
                refine ⟨by first | with_reducible rfl | rfl, ?_⟩ -- v_39.snd.fst = v_39.snd.fst
                refine ⟨by first | with_reducible rfl | rfl, ?_⟩ -- v_39.snd.snd.fst = v_39.snd.snd.fst
                refine ⟨by first | with_reducible rfl | rfl, ?_⟩ -- v_39.snd.snd.snd.fst = v_39.snd.snd.snd.fst
                refine ⟨by first | with_reducible rfl | rfl, ?_⟩ -- v_39.snd.snd.snd.snd.snd = v_39.snd.snd.snd.snd.snd
                refine ⟨?_, ?_⟩
                · -- left
                  refine ⟨by first | omega | (dsimp only; omega), ?_⟩ -- (0 : Int) ≤ n81 ∧ n81 ≤ (↑v_39.snd.snd.snd.snd.fst : Int)
                  refine ⟨?_, ?_⟩
                  · -- left
                    refine ⟨by first | omega | (dsimp only; omega), ?_⟩ -- (1 : Nat) ≤ n.toNat ∧ n.toNat ≤ (1024 : Nat)
                    refine ⟨by show v_39.snd.snd.snd.fst.length = n.toNat; omega, ?_⟩ -- v_39.snd.snd.snd.fst.length = n.toNat
                    refine ⟨by first | omega | (dsimp only; omega), ?_⟩ -- (0 : Int) ≤ v_39.snd.fst ∧ v_39.snd.fst < (↑n.toNat : Int)
                    refine ⟨by show (0 : Int) ≤ v_39.snd.snd.fst; omega, ?_⟩ -- (0 : Int) ≤ v_39.snd.snd.fst
                    exact by show v_39.snd.snd.fst ≤ (↑n.toNat : Int); omega -- v_39.snd.snd.fst ≤ (↑n.toNat : Int)
                  have h29 : RInv n.toNat v_39.snd.fst v_39.snd.snd.fst v_39.snd.snd.snd.fst l := by
                    exact h20.2.2.1
                  refine ⟨h29, ?_⟩
                  have h30 : v_39.snd.snd.snd.snd.snd = lastL n.toNat l := by
                    exact h20.2.2.2.1
                  refine ⟨h30, ?_⟩
                  refine ⟨by show v_39.snd.snd.snd.snd.snd.length = v_39.snd.snd.snd.snd.fst; omega, ?_⟩ -- v_39.snd.snd.snd.snd.snd.length = v_39.snd.snd.snd.snd.fst
                  refine ⟨by show (↑v_39.snd.snd.snd.snd.fst : Int) = v_39.snd.snd.fst; omega, ?_⟩ -- (↑v_39.snd.snd.snd.snd.fst : Int) = v_39.snd.snd.fst
                  exact by show (↑v_39.snd.snd.snd.snd.fst : Int) = min (↑l.length : Int) n; omega -- (↑v_39.snd.snd.snd.snd.fst : Int) = min (↑l.length : Int) n
                exact by show ((↑v_39.snd.snd.snd.snd.fst : Int) - n81).toNat < ((↑v_39.snd.snd.snd.snd.fst : Int) - v_39.fst).toNat; omega -- ((↑v_39.snd.snd.snd.snd.fst : Int) - n81).toNat < ((↑v_39.snd.snd.snd.snd.fst : Int) - v_39.fst).toNat
            · -- no
              exact by exact hk -- k (AV.bool true) [] []
    intro h31 -- n < (1 : Int) ∨ (1024 : Int) < n
    exact by exact k_true hk (by simp [*]) -- k (AV.bool (bif bif true then true else false then bif decide (n < (1 : Int)) then true else decide (n > (1024 : Int)) else false)) [] []

theorem ringLast_ok : Holds Try.prog 3 lawIL := by
  refine fn_sound (env := mkEnv T4) (tab_ok T4_ok) Try.func3 Try.call3 fun args k h => ?_
  match args, h with
  | [.int .i64 n, .sl 1 l], h => exact ⟨by kernel_rfl, lastLoops n l, fun _ _ => none, .cast (by kernel_rfl) (ringLast_vc n h.1.1 h.1.2 l k h.2)⟩
end Go.Proofs.Ytcnnbofjgmohaaa
namespace Go.Proofs.Ytcnnbofjgmohaaa
open Go.ChangeShapes Go.WideShapes Go.ChangeAt Go.RowKit Go.Eng
set_option linter.unusedVariables false

theorem ownA : ownKnob Try.prog.godebug = none := by kernel_rfl
theorem laidA : laidOutB Try.prog = true := by kernel_rfl

set_option maxHeartbeats 800000 in
set_option maxRecDepth 100000 in
theorem ringLastLifted (os : Os) (started : os.Started) (H : Type) (enc : TypeId × Value → H) :
    ReturnsInHanded {} Try.checked os 3 .any (Rows.ringLastSpec.pre6 enc Try.prog Try.f3 Rows.ringLastRow.domain false) (Rows.ringLastSpec.post enc Try.prog Try.f3 false true false false) := by
  refine returnsInHanded_of_change (C := Try.checked) ownA started (by kernel_rfl) Try.func3
    (ChangeSpec.witness6 (enc := enc) (C := Try.checked) false ⟨#[], #[.int .i64 0, .slice none 0 0], []⟩ 8 (by kernel_rfl) (by kernel_rfl) (by kernel_rfl) (by kernel_rfl)) ?_
  intro W base args ds gs before hval0 hW hcnd _
  have hval : ∀ (j : Nat) t v, Try.f3.params[j]? = some t → args[j]? = some v → Value.okWide Try.prog W .any base t v := hval0
  have hW' := hW
  obtain ⟨p, q, hA0, hV, rfl, hfz, hnd⟩ := hW
  have hA : DataW.TrodAll enc Try.prog W 0 (fun _ => true) true Try.f3.params.toList args.toList ds p := hA0
  rw [Try.params3] at hA hval
  obtain ⟨v0, vs0, d0, ds0, p0, q0, hargs, rfl, rfl, h0, r0⟩ := trodAll_cons hA
  obtain ⟨v1, vs1, d1, ds1, p1, q1, rfl, rfl, rfl, h1, r1⟩ := trodAll_cons r0
  obtain ⟨rfl, rfl, rfl⟩ := trodAll_nil r1
  obtain rfl : args = #[v0, v1] := by cases args; simp_all
  obtain ⟨rfl, rfl⟩ := trodVars_none hV
  obtain ⟨a0, rfl, rfl, rfl, w0⟩ := open_int Try.underlying3 (hval 0 3 v0 rfl rfl) h0
  have k1 := h1
  have lt1 : ∀ x ∈ p1, x.block < W.heap.size := by obtain ⟨m, hm⟩ := k1; exact DataW.trod_lt m _ _ _ hm
  obtain ⟨xs1, w1⟩ : ∃ xs : List Int, Rep W (· < W.heap.size) noIds v1 (.sl 1 xs) := by
    obtain ⟨fuel, hf⟩ := h1
    exact rep_ints Try.underlying22 Try.underlying3 (by kernel_rfl) (hval 1 22 v1 rfl rfl) hf
  clear hA0 hval0
  have hk0 : kwf .i64 a0 := by simpa [Lit.wf, kwf] using w0
  -- PRE: what the spec asks (['hk0']), then rfl
  refine (calls_of_holds ringLast_ok Try.call3 (w := W) (vals := #[.int .i64 a0, v1]) (args := [.int .i64 a0, .sl 1 xs1]) rfl (fun j v hj => ?_) ⟨hk0, rfl⟩).mono fun e W' ⟨he, bel⟩ => ?_
  · rcases j with _ | _ | j
    · simp at hj; subst hj; exact .int hk0
    · simp at hj; subst hj; exact w1
    · simp at hj
  subst he
  exact ⟨_, rfl, _, _, _, [], _, [], hW', trodAll_mk1 (shut_bool Try.underlying4 _), (trodAll_cons_mk (shut_int Try.underlying3 w0) (trodAll_cons_mk (Below.trod laidA (by kernel_rfl) (of_decide_eq_true (by kernel_rfl)) k1 bel lt1) trodAll_mk0)), rfl, bel.frame _, fun h => by cases h⟩

theorem ringLast_said : Rows.RingLastSaid :=
  OpenClaim.holds_of_wide 3 Try.f3 rfl rfl rfl rfl rfl rfl rfl ⟨rfl, rfl, rfl, rfl, rfl⟩ rfl rfl rfl rfl rfl (by kernel_rfl) Try.func3 (by kernel_rfl)
    (of_decide_eq_true (by kernel_rfl)) (by unfold Func.isWrapper; first | (rw [if_pos (by decide +kernel)]; kernel_rfl) | (rw [if_neg (by decide +kernel)]; exact ⟨rfl, rfl⟩))
    (fun os started H enc _ => ringLastLifted os started H enc)
#print axioms ringLast_said
end Go.Proofs.Ytcnnbofjgmohaaa


