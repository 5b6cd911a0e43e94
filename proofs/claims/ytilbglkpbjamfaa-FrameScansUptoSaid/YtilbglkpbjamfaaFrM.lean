import Derived.Test.YtilbglkpbjamfaaFrL
namespace Go.Proofs.Ytilbglkpbjamfaa
open Go Go.Eng Go.Rw Go.Fr Go.Proofs
set_option linter.unusedVariables false
set_option maxHeartbeats 2000000 in
theorem feed_vc (n : Nat) (bg : Bool) (lg : Bool) (us : List UInt8) (b : List UInt8) (hn : n ≤ us.length ∧ n ≤ (1043 : Nat)) (k : AV → List (Option Blk) → List Blk → Prop) (hk : ((16384 : Nat) < b.length → k (AV.tup [AV.nilsl, AV.int IntKind.i64 (3 : Int)]) [some (Blk.cells [AV.row (0 : Nat) (2 : Nat) (0 : Nat) n, AV.bool bg, AV.bool lg, AV.bool true]), none] [Blk.row (0 : Nat) us]) ∧ (b.length ≤ (16384 : Nat) → ∀ (b1 l1 : Bool) (us1 : List UInt8) (n1 m : Nat) (ys : List Msg), (b1, l1, List.take n1 us1) = rfold (bg, lg, List.take n us) b → ys = msgs (bg, lg, List.take n us) b → ys.length = m → n1 ≤ us1.length ∧ n1 ≤ (1043 : Nat) → k (AV.tup [AV.row (8 : Nat) (2 : Nat) (0 : Nat) m, AV.int IntKind.i64 (0 : Int)]) [some (Blk.cells [AV.row (0 : Nat) (3 : Nat) (0 : Nat) n1, AV.bool b1, AV.bool l1, AV.bool true]), none] [Blk.row (8 : Nat) ys, Blk.row (0 : Nat) us1])) :
  ∀ (n1 : Int),
  (n1 = (↑b.length : Int)) →
  ((-9223372036854775808 : Int) ≤ n1 ∧ n1 ≤ (9223372036854775807 : Int)) →
  br (decide (n1 > (16384 : Int)))
   ((k (AV.tup [AV.nilsl, AV.int IntKind.i64 (3 : Int)]) [some (Blk.cells [AV.row (0 : Nat) (2 : Nat) (0 : Nat) n, AV.bool bg, AV.bool lg, AV.bool true]), none] [Blk.row (0 : Nat) us]))
   (∀ (n4 : Int),
    (n4 = (↑b.length : Int)) →
    ((-9223372036854775808 : Int) ≤ n4 ∧ n4 ≤ (9223372036854775807 : Int)) →
    (
     ∃ (v : Nat × Bool × Bool × List UInt8 × Nat × List Msg),
     ((0 : Nat) = (0 : Nat)) ∧
     ((0 : Nat) = v.snd.snd.snd.snd.snd.length) ∧
     (b = b) ∧
     (n4 = (↑b.length : Int)) ∧
     ((0 : Int) = (↑v.fst : Int)) ∧
     ((0 : Nat) = (0 : Nat)) ∧
     (n = v.snd.snd.snd.snd.fst) ∧
     (bg = v.snd.fst) ∧
     (lg = v.snd.snd.fst) ∧
     (true = true) ∧
     (us = v.snd.snd.snd.fst) ∧
     ([] = v.snd.snd.snd.snd.snd) ∧
     (v.fst ≤ b.length) ∧
     (b.length ≤ (16384 : Nat)) ∧
     (
      (v.snd.snd.snd.snd.fst ≤ v.snd.snd.snd.fst.length) ∧
      (v.snd.snd.snd.snd.fst ≤ (1043 : Nat))) ∧
     (FIn bg lg (List.take n us) b v.fst v.snd.fst v.snd.snd.fst (List.take v.snd.snd.snd.snd.fst v.snd.snd.snd.fst) v.snd.snd.snd.snd.snd) ∧
     (v.snd.snd.snd.snd.snd.length ≤ v.fst)) ∧
    ∀ (v_7 : Nat × Bool × Bool × List UInt8 × Nat × List Msg),
    (v_7.fst ≤ b.length ∧ b.length ≤ (16384 : Nat) ∧ (v_7.snd.snd.snd.snd.fst ≤ v_7.snd.snd.snd.fst.length ∧ v_7.snd.snd.snd.snd.fst ≤ (1043 : Nat)) ∧ FIn bg lg (List.take n us) b v_7.fst v_7.snd.fst v_7.snd.snd.fst (List.take v_7.snd.snd.snd.snd.fst v_7.snd.snd.snd.fst) v_7.snd.snd.snd.snd.snd ∧ v_7.snd.snd.snd.snd.snd.length ≤ v_7.fst) →
    br (decide ((↑v_7.fst : Int) < (↑b.length : Int)))
     (((0 : Int) ≤ (↑v_7.fst : Int)) ∧
      ((↑v_7.fst : Int) < (↑b.length : Int)) ∧
      ∀ (n9 : Int),
      (n9 = (↑(b.getD (↑v_7.fst : Int).toNat (0 : UInt8)).toNat : Int)) →
      ((0 : Int) ≤ n9 ∧ n9 ≤ (255 : Int)) →
      br (n9 == (126 : Int))
       (((List.take v_7.snd.snd.snd.snd.fst (List.drop (0 : Nat) v_7.snd.snd.snd.fst)).length ≤ (1000000 : Nat)) ∧
        (
         (pc (List.take v_7.snd.snd.snd.snd.fst (List.drop (0 : Nat) v_7.snd.snd.snd.fst)) = none) →
         ((0 : Int) ≤ (0 : Int)) ∧
         ((0 : Int) ≤ (↑v_7.snd.snd.snd.snd.fst : Int)) ∧
         ∀ (n13 : Int),
         (n13 = IntKind.i64.wrap ((↑v_7.fst : Int) + (1 : Int))) →
         ((-9223372036854775808 : Int) ≤ n13 ∧ n13 ≤ (9223372036854775807 : Int)) →
         ∃ (v' : Nat × Bool × Bool × List UInt8 × Nat × List Msg),
         ((0 : Nat) = (0 : Nat)) ∧
         (v_7.snd.snd.snd.snd.snd.length = v'.snd.snd.snd.snd.snd.length) ∧
         (b = b) ∧
         ((↑b.length : Int) = (↑b.length : Int)) ∧
         (n13 = (↑v'.fst : Int)) ∧
         ((0 : Nat) = (0 : Nat)) ∧
         (Int.toNat (0 : Int) = v'.snd.snd.snd.snd.fst) ∧
         (true = v'.snd.fst) ∧
         (false = v'.snd.snd.fst) ∧
         (true = true) ∧
         (v_7.snd.snd.snd.fst = v'.snd.snd.snd.fst) ∧
         (v_7.snd.snd.snd.snd.snd = v'.snd.snd.snd.snd.snd) ∧
         (
          (v'.fst ≤ b.length) ∧
          (b.length ≤ (16384 : Nat)) ∧
          (
           (v'.snd.snd.snd.snd.fst ≤ v'.snd.snd.snd.fst.length) ∧
           (v'.snd.snd.snd.snd.fst ≤ (1043 : Nat))) ∧
          (FIn bg lg (List.take n us) b v'.fst v'.snd.fst v'.snd.snd.fst (List.take v'.snd.snd.snd.snd.fst v'.snd.snd.snd.fst) v'.snd.snd.snd.snd.snd) ∧
          (v'.snd.snd.snd.snd.snd.length ≤ v'.fst)) ∧
         (b.length - v'.fst < b.length - v_7.fst)) ∧
        ∀ (kd_16 : Int),
        ∀ (sq_17 : Int),
        ∀ (bo_18 : List UInt8),
        ∀ (n_19 : Nat),
        (pc (List.take v_7.snd.snd.snd.snd.fst (List.drop (0 : Nat) v_7.snd.snd.snd.fst)) = some (kd_16, sq_17, bo_18)) →
        (bo_18.length = n_19) →
        ((0 : Int) ≤ kd_16 ∧ kd_16 ≤ (255 : Int)) →
        ((0 : Int) ≤ sq_17 ∧ sq_17 ≤ (4294967295 : Int)) →
        br (bif bif true then v_7.snd.fst else false then !v_7.snd.snd.fst else false)
         (((v_7.snd.snd.snd.snd.snd.length + (1 : Nat)) * (32 : Nat) ≤ (140737488355328 : Nat)) ∧
          ∀ (z24 : List Msg),
          (z24 = List.take v_7.snd.snd.snd.snd.snd.length v_7.snd.snd.snd.snd.snd ++ List.take (1 : Nat) (List.drop (0 : Nat) [{ kind := UInt8.ofNat kd_16.toNat, seq := UInt32.ofNat sq_17.toNat, body := List.take n_19 (List.drop (0 : Nat) bo_18) : Msg }])) →
          ((0 : Int) ≤ (0 : Int)) ∧
          ((0 : Int) ≤ (↑v_7.snd.snd.snd.snd.fst : Int)) ∧
          ∀ (n26 : Int),
          (n26 = IntKind.i64.wrap ((↑v_7.fst : Int) + (1 : Int))) →
          ((-9223372036854775808 : Int) ≤ n26 ∧ n26 ≤ (9223372036854775807 : Int)) →
          ∃ (v' : Nat × Bool × Bool × List UInt8 × Nat × List Msg),
          ((0 : Nat) = (0 : Nat)) ∧
          (v_7.snd.snd.snd.snd.snd.length + (1 : Nat) = v'.snd.snd.snd.snd.snd.length) ∧
          (b = b) ∧
          ((↑b.length : Int) = (↑b.length : Int)) ∧
          (n26 = (↑v'.fst : Int)) ∧
          ((0 : Nat) = (0 : Nat)) ∧
          (Int.toNat (0 : Int) = v'.snd.snd.snd.snd.fst) ∧
          (true = v'.snd.fst) ∧
          (false = v'.snd.snd.fst) ∧
          (true = true) ∧
          (v_7.snd.snd.snd.fst = v'.snd.snd.snd.fst) ∧
          (z24 = v'.snd.snd.snd.snd.snd) ∧
          (
           (v'.fst ≤ b.length) ∧
           (b.length ≤ (16384 : Nat)) ∧
           (
            (v'.snd.snd.snd.snd.fst ≤ v'.snd.snd.snd.fst.length) ∧
            (v'.snd.snd.snd.snd.fst ≤ (1043 : Nat))) ∧
           (FIn bg lg (List.take n us) b v'.fst v'.snd.fst v'.snd.snd.fst (List.take v'.snd.snd.snd.snd.fst v'.snd.snd.snd.fst) v'.snd.snd.snd.snd.snd) ∧
           (v'.snd.snd.snd.snd.snd.length ≤ v'.fst)) ∧
          (b.length - v'.fst < b.length - v_7.fst))
         (((0 : Int) ≤ (0 : Int)) ∧
          ((0 : Int) ≤ (↑v_7.snd.snd.snd.snd.fst : Int)) ∧
          ∀ (n29 : Int),
          (n29 = IntKind.i64.wrap ((↑v_7.fst : Int) + (1 : Int))) →
          ((-9223372036854775808 : Int) ≤ n29 ∧ n29 ≤ (9223372036854775807 : Int)) →
          ∃ (v' : Nat × Bool × Bool × List UInt8 × Nat × List Msg),
          ((0 : Nat) = (0 : Nat)) ∧
          (v_7.snd.snd.snd.snd.snd.length = v'.snd.snd.snd.snd.snd.length) ∧
          (b = b) ∧
          ((↑b.length : Int) = (↑b.length : Int)) ∧
          (n29 = (↑v'.fst : Int)) ∧
          ((0 : Nat) = (0 : Nat)) ∧
          (Int.toNat (0 : Int) = v'.snd.snd.snd.snd.fst) ∧
          (true = v'.snd.fst) ∧
          (false = v'.snd.snd.fst) ∧
          (true = true) ∧
          (v_7.snd.snd.snd.fst = v'.snd.snd.snd.fst) ∧
          (v_7.snd.snd.snd.snd.snd = v'.snd.snd.snd.snd.snd) ∧
          (
           (v'.fst ≤ b.length) ∧
           (b.length ≤ (16384 : Nat)) ∧
           (
            (v'.snd.snd.snd.snd.fst ≤ v'.snd.snd.snd.fst.length) ∧
            (v'.snd.snd.snd.snd.fst ≤ (1043 : Nat))) ∧
           (FIn bg lg (List.take n us) b v'.fst v'.snd.fst v'.snd.snd.fst (List.take v'.snd.snd.snd.snd.fst v'.snd.snd.snd.fst) v'.snd.snd.snd.snd.snd) ∧
           (v'.snd.snd.snd.snd.snd.length ≤ v'.fst)) ∧
          (b.length - v'.fst < b.length - v_7.fst)))
       (∀ (n32 : Int),
        (n32 = (↑v_7.snd.snd.snd.snd.fst : Int)) →
        ((-9223372036854775808 : Int) ≤ n32 ∧ n32 ≤ (9223372036854775807 : Int)) →
        br (decide (n32 ≥ (1043 : Int)))
         (∀ (n35 : Int),
          (n35 = IntKind.i64.wrap ((↑v_7.fst : Int) + (1 : Int))) →
          ((-9223372036854775808 : Int) ≤ n35 ∧ n35 ≤ (9223372036854775807 : Int)) →
          ∃ (v' : Nat × Bool × Bool × List UInt8 × Nat × List Msg),
          ((0 : Nat) = (0 : Nat)) ∧
          (v_7.snd.snd.snd.snd.snd.length = v'.snd.snd.snd.snd.snd.length) ∧
          (b = b) ∧
          ((↑b.length : Int) = (↑b.length : Int)) ∧
          (n35 = (↑v'.fst : Int)) ∧
          ((0 : Nat) = (0 : Nat)) ∧
          (v_7.snd.snd.snd.snd.fst = v'.snd.snd.snd.snd.fst) ∧
          (v_7.snd.fst = v'.snd.fst) ∧
          (true = v'.snd.snd.fst) ∧
          (true = true) ∧
          (v_7.snd.snd.snd.fst = v'.snd.snd.snd.fst) ∧
          (v_7.snd.snd.snd.snd.snd = v'.snd.snd.snd.snd.snd) ∧
          (
           (v'.fst ≤ b.length) ∧
           (b.length ≤ (16384 : Nat)) ∧
           (
            (v'.snd.snd.snd.snd.fst ≤ v'.snd.snd.snd.fst.length) ∧
            (v'.snd.snd.snd.snd.fst ≤ (1043 : Nat))) ∧
           (FIn bg lg (List.take n us) b v'.fst v'.snd.fst v'.snd.snd.fst (List.take v'.snd.snd.snd.snd.fst v'.snd.snd.snd.fst) v'.snd.snd.snd.snd.snd) ∧
           (v'.snd.snd.snd.snd.snd.length ≤ v'.fst)) ∧
          (b.length - v'.fst < b.length - v_7.fst))
         (br (v_7.snd.fst)
           (((v_7.snd.snd.snd.snd.fst + (1 : Nat)) * (1 : Nat) ≤ (140737488355328 : Nat)) ∧
            ∀ (z38 : List UInt8),
            (z38 = List.take v_7.snd.snd.snd.snd.fst v_7.snd.snd.snd.fst ++ List.take (1 : Nat) (List.drop (0 : Nat) [UInt8.ofNat n9.toNat])) →
            ∀ (n40 : Int),
            (n40 = IntKind.i64.wrap ((↑v_7.fst : Int) + (1 : Int))) →
            ((-9223372036854775808 : Int) ≤ n40 ∧ n40 ≤ (9223372036854775807 : Int)) →
            ∃ (v' : Nat × Bool × Bool × List UInt8 × Nat × List Msg),
            ((0 : Nat) = (0 : Nat)) ∧
            (v_7.snd.snd.snd.snd.snd.length = v'.snd.snd.snd.snd.snd.length) ∧
            (b = b) ∧
            ((↑b.length : Int) = (↑b.length : Int)) ∧
            (n40 = (↑v'.fst : Int)) ∧
            ((0 : Nat) = (0 : Nat)) ∧
            (v_7.snd.snd.snd.snd.fst + (1 : Nat) = v'.snd.snd.snd.snd.fst) ∧
            (v_7.snd.fst = v'.snd.fst) ∧
            (v_7.snd.snd.fst = v'.snd.snd.fst) ∧
            (true = true) ∧
            (z38 = v'.snd.snd.snd.fst) ∧
            (v_7.snd.snd.snd.snd.snd = v'.snd.snd.snd.snd.snd) ∧
            (
             (v'.fst ≤ b.length) ∧
             (b.length ≤ (16384 : Nat)) ∧
             (
              (v'.snd.snd.snd.snd.fst ≤ v'.snd.snd.snd.fst.length) ∧
              (v'.snd.snd.snd.snd.fst ≤ (1043 : Nat))) ∧
             (FIn bg lg (List.take n us) b v'.fst v'.snd.fst v'.snd.snd.fst (List.take v'.snd.snd.snd.snd.fst v'.snd.snd.snd.fst) v'.snd.snd.snd.snd.snd) ∧
             (v'.snd.snd.snd.snd.snd.length ≤ v'.fst)) ∧
            (b.length - v'.fst < b.length - v_7.fst))
           (∀ (n43 : Int),
            (n43 = IntKind.i64.wrap ((↑v_7.fst : Int) + (1 : Int))) →
            ((-9223372036854775808 : Int) ≤ n43 ∧ n43 ≤ (9223372036854775807 : Int)) →
            ∃ (v' : Nat × Bool × Bool × List UInt8 × Nat × List Msg),
            ((0 : Nat) = (0 : Nat)) ∧
            (v_7.snd.snd.snd.snd.snd.length = v'.snd.snd.snd.snd.snd.length) ∧
            (b = b) ∧
            ((↑b.length : Int) = (↑b.length : Int)) ∧
            (n43 = (↑v'.fst : Int)) ∧
            ((0 : Nat) = (0 : Nat)) ∧
            (v_7.snd.snd.snd.snd.fst = v'.snd.snd.snd.snd.fst) ∧
            (v_7.snd.fst = v'.snd.fst) ∧
            (v_7.snd.snd.fst = v'.snd.snd.fst) ∧
            (true = true) ∧
            (v_7.snd.snd.snd.fst = v'.snd.snd.snd.fst) ∧
            (v_7.snd.snd.snd.snd.snd = v'.snd.snd.snd.snd.snd) ∧
            (
             (v'.fst ≤ b.length) ∧
             (b.length ≤ (16384 : Nat)) ∧
             (
              (v'.snd.snd.snd.snd.fst ≤ v'.snd.snd.snd.fst.length) ∧
              (v'.snd.snd.snd.snd.fst ≤ (1043 : Nat))) ∧
             (FIn bg lg (List.take n us) b v'.fst v'.snd.fst v'.snd.snd.fst (List.take v'.snd.snd.snd.snd.fst v'.snd.snd.snd.fst) v'.snd.snd.snd.snd.snd) ∧
             (v'.snd.snd.snd.snd.snd.length ≤ v'.fst)) ∧
            (b.length - v'.fst < b.length - v_7.fst)))))
     ((k (AV.tup [AV.row (8 : Nat) (2 : Nat) (0 : Nat) v_7.snd.snd.snd.snd.snd.length, AV.int IntKind.i64 (0 : Int)]) [some (Blk.cells [AV.row (0 : Nat) (3 : Nat) (0 : Nat) v_7.snd.snd.snd.snd.fst, AV.bool v_7.snd.fst, AV.bool v_7.snd.snd.fst, AV.bool true]), none] [Blk.row (8 : Nat) v_7.snd.snd.snd.snd.snd, Blk.row (0 : Nat) v_7.snd.snd.snd.fst]))) := by
  intro n1
  intro q1 -- n1 = (↑b.length : Int)
  intro ⟨l1, u1⟩ -- (-9223372036854775808 : Int) ≤ n1 ∧ n1 ≤ (9223372036854775807 : Int)
  refine brd (fun c1 => ?_) (fun c1 => ?_) -- decide (n1 > (16384 : Int))
  · -- yes
    -- k (AV.tup [AV.nilsl, AV.int IntKind.i64 (3 : Int)]) [some (Blk.cells [AV.row (0 : Nat) (2 : Nat) (0 : Nat) n, AV.bool bg, AV.bool lg, AV.bool true]), none] [Blk.row (0 : Nat) us]
    exact hk.1 (by omega)
  · -- no
    intro n4
    intro q4 -- n4 = (↑b.length : Int)
    intro ⟨l4, u4⟩ -- (-9223372036854775808 : Int) ≤ n4 ∧ n4 ≤ (9223372036854775807 : Int)
    refine ⟨?_, ?_⟩
    · -- left
      refine ⟨(Int.toNat (0 : Int), bg, lg, us, n, []), ?_⟩
      refine ⟨by first | with_reducible rfl | rfl, ?_⟩ -- (0 : Nat) = (0 : Nat)
      refine ⟨by first | with_reducible rfl | rfl, ?_⟩ -- (0 : Nat) = (0 : Nat)
      refine ⟨by first | with_reducible rfl | rfl, ?_⟩ -- b = b
      refine ⟨by show n4 = (↑b.length : Int); assumption, ?_⟩ -- n4 = (↑b.length : Int)
      refine ⟨by show (0 : Int) = (↑(Int.toNat (0 : Int)) : Int); omega, ?_⟩ -- (0 : Int) = (↑(Int.toNat (0 : Int)) : Int)
      refine ⟨by first | with_reducible rfl | rfl, ?_⟩ -- (0 : Nat) = (0 : Nat)
      refine ⟨by first | with_reducible rfl | rfl, ?_⟩ -- n = n
      refine ⟨by first | with_reducible rfl | rfl, ?_⟩ -- bg = bg
      refine ⟨by first | with_reducible rfl | rfl, ?_⟩ -- lg = lg
      refine ⟨by first | with_reducible rfl | rfl, ?_⟩ -- true = true
      refine ⟨by first | with_reducible rfl | rfl, ?_⟩ -- us = us
      refine ⟨by first | with_reducible rfl | rfl, ?_⟩ -- [] = []
      refine ⟨by show Int.toNat (0 : Int) ≤ b.length; omega, ?_⟩ -- Int.toNat (0 : Int) ≤ b.length
      refine ⟨by show b.length ≤ (16384 : Nat); omega, ?_⟩ -- b.length ≤ (16384 : Nat)
      refine ⟨by first | omega | (dsimp only; omega), ?_⟩ -- n ≤ us.length ∧ n ≤ (1043 : Nat)
      have h2 : FIn bg lg (List.take n us) b (Int.toNat (0 : Int)) bg lg (List.take n us) [] := by
        exact ⟨rfl, rfl⟩
      refine ⟨h2, ?_⟩
      exact by show (0 : Nat) ≤ Int.toNat (0 : Int); omega -- (0 : Nat) ≤ Int.toNat (0 : Int)
    intro v_7
    intro h3 -- v_7.fst ≤ b.length ∧ b.length ≤ (16384 : Nat) ∧ (v_7.snd.snd.snd.snd.fst ≤ v_7.snd.snd.snd.fst.length ∧ v_7.snd.snd.snd.snd.fst ≤ (1043 : Nat)) ∧ FIn bg lg (List.take n us) b v_7.fst v_7.snd.fst v_7.snd.snd.fst (List.take v_7.snd.snd.snd.snd.fst v_7.snd.snd.snd.fst) v_7.snd.snd.snd.snd.snd ∧ v_7.snd.snd.snd.snd.snd.length ≤ v_7.fst
    refine brd (fun c4 => ?_) (fun c4 => ?_) -- decide ((↑v_7.fst : Int) < (↑b.length : Int))
    · -- yes
      refine ⟨by first | omega | (dsimp only; omega), ?_⟩ -- (0 : Int) ≤ (↑v_7.fst : Int)
      refine ⟨by assumption, ?_⟩ -- (↑v_7.fst : Int) < (↑b.length : Int)
      intro n9
      intro q9 -- n9 = (↑(b.getD (↑v_7.fst : Int).toNat (0 : UInt8)).toNat : Int)
      intro ⟨l9, u9⟩ -- (0 : Int) ≤ n9 ∧ n9 ≤ (255 : Int)
      refine br_intro (fun c5 => ?_) (fun c5 => ?_) -- n9 == (126 : Int)
      · -- yes
        simp at c5 -- n9 = (126 : Int)
        have h6 : (List.take v_7.snd.snd.snd.snd.fst (List.drop (0 : Nat) v_7.snd.snd.snd.fst)).length ≤ (1000000 : Nat) := by
          rw [List.drop_zero, List.length_take]; omega
        refine ⟨h6, ?_⟩
        refine ⟨?_, ?_⟩
        · -- left
          intro h7 -- pc (List.take v_7.snd.snd.snd.snd.fst (List.drop (0 : Nat) v_7.snd.snd.snd.fst)) = none
          refine ⟨by first | omega | (dsimp only; omega), ?_⟩ -- (0 : Int) ≤ (0 : Int)
          refine ⟨by first | omega | (dsimp only; omega), ?_⟩ -- (0 : Int) ≤ (↑v_7.snd.snd.snd.snd.fst : Int)
          intro n13
          intro q13 -- n13 = IntKind.i64.wrap ((↑v_7.fst : Int) + (1 : Int))
          rw [IntKind.wrap_i64] at q13
          intro ⟨l13, u13⟩ -- (-9223372036854775808 : Int) ≤ n13 ∧ n13 ≤ (9223372036854775807 : Int)
          refine ⟨(n13.toNat, true, false, v_7.snd.snd.snd.fst, Int.toNat (0 : Int), v_7.snd.snd.snd.snd.snd), ?_⟩
          refine ⟨by first | with_reducible rfl | rfl, ?_⟩ -- (0 : Nat) = (0 : Nat)
          refine ⟨by first | with_reducible rfl | rfl, ?_⟩ -- v_7.snd.snd.snd.snd.snd.length = v_7.snd.snd.snd.snd.snd.length
          refine ⟨by first | with_reducible rfl | rfl, ?_⟩ -- b = b
          refine ⟨by first | with_reducible rfl | rfl, ?_⟩ -- (↑b.length : Int) = (↑b.length : Int)
          refine ⟨by show n13 = (↑n13.toNat : Int); omega, ?_⟩ -- n13 = (↑n13.toNat : Int)
          refine ⟨by first | with_reducible rfl | rfl, ?_⟩ -- (0 : Nat) = (0 : Nat)
          refine ⟨by first | with_reducible rfl | rfl, ?_⟩ -- Int.toNat (0 : Int) = Int.toNat (0 : Int)
          refine ⟨by first | with_reducible rfl | rfl, ?_⟩ -- true = true
          refine ⟨by first | with_reducible rfl | rfl, ?_⟩ -- false = false
          refine ⟨by first | with_reducible rfl | rfl, ?_⟩ -- true = true
          refine ⟨by first | with_reducible rfl | rfl, ?_⟩ -- v_7.snd.snd.snd.fst = v_7.snd.snd.snd.fst
          refine ⟨by first | with_reducible rfl | rfl, ?_⟩ -- v_7.snd.snd.snd.snd.snd = v_7.snd.snd.snd.snd.snd
          refine ⟨?_, ?_⟩
          · -- left
            refine ⟨by show n13.toNat ≤ b.length; omega, ?_⟩ -- n13.toNat ≤ b.length
            refine ⟨by show b.length ≤ (16384 : Nat); omega, ?_⟩ -- b.length ≤ (16384 : Nat)
            refine ⟨by first | omega | (dsimp only; omega), ?_⟩ -- Int.toNat (0 : Int) ≤ v_7.snd.snd.snd.fst.length ∧ Int.toNat (0 : Int) ≤ (1043 : Nat)
            have h8 : FIn bg lg (List.take n us) b n13.toNat true false (List.take (Int.toNat (0 : Int)) v_7.snd.snd.snd.fst) v_7.snd.snd.snd.snd.snd := by
              have bx : n9 = ((b.getD v_7.fst 0).toNat : Int) := by rw [q9, Int.toNat_natCast]
              have x126 : b.getD v_7.fst 0 = 126 := byteE bx c5
              rw [List.drop_zero] at h7
              exact fin_step h3.2.2.2.1 (by omega) (by omega) (by rw [x126]; rfl) (by rw [emit_pcn _ h7, List.append_nil])
            refine ⟨h8, ?_⟩
            exact by show v_7.snd.snd.snd.snd.snd.length ≤ n13.toNat; omega -- v_7.snd.snd.snd.snd.snd.length ≤ n13.toNat
          exact by show b.length - n13.toNat < b.length - v_7.fst; omega -- b.length - n13.toNat < b.length - v_7.fst
        intro kd_16
        intro sq_17
        intro bo_18
        intro n_19
        intro h9 -- pc (List.take v_7.snd.snd.snd.snd.fst (List.drop (0 : Nat) v_7.snd.snd.snd.fst)) = some (kd_16, sq_17, bo_18)
        intro h10 -- bo_18.length = n_19
        intro ⟨a11, b11⟩ -- (0 : Int) ≤ kd_16 ∧ kd_16 ≤ (255 : Int)
        intro ⟨a12, b12⟩ -- (0 : Int) ≤ sq_17 ∧ sq_17 ≤ (4294967295 : Int)
        refine br_intro (fun c13 => ?_) (fun c13 => ?_) -- bif bif true then v_7.snd.fst else false then !v_7.snd.snd.fst else false
        · -- yes
          simp at c13 -- v_7.snd.fst = true ∧ v_7.snd.snd.fst = false
          refine ⟨by first | omega | (dsimp only; omega), ?_⟩ -- (v_7.snd.snd.snd.snd.snd.length + (1 : Nat)) * (32 : Nat) ≤ (140737488355328 : Nat)
          intro z24
          intro qz24 -- z24 = List.take v_7.snd.snd.snd.snd.snd.length v_7.snd.snd.snd.snd.snd ++ List.take (1 : Nat) (List.drop (0 : Nat) [{ kind := UInt8.ofNat kd_16.toNat, seq := UInt32.ofNat sq_17.toNat, body := List.take n_19 (List.drop (0 : Nat) bo_18) : Msg }])
          refine ⟨by first | omega | (dsimp only; omega), ?_⟩ -- (0 : Int) ≤ (0 : Int)
          refine ⟨by first | omega | (dsimp only; omega), ?_⟩ -- (0 : Int) ≤ (↑v_7.snd.snd.snd.snd.fst : Int)
          intro n26
          intro q26 -- n26 = IntKind.i64.wrap ((↑v_7.fst : Int) + (1 : Int))
          rw [IntKind.wrap_i64] at q26
          intro ⟨l26, u26⟩ -- (-9223372036854775808 : Int) ≤ n26 ∧ n26 ≤ (9223372036854775807 : Int)
          refine ⟨(n26.toNat, true, false, v_7.snd.snd.snd.fst, Int.toNat (0 : Int), z24), ?_⟩
          refine ⟨by first | with_reducible rfl | rfl, ?_⟩ -- (0 : Nat) = (0 : Nat)
          have h14 : v_7.snd.snd.snd.snd.snd.length + (1 : Nat) = z24.length := by
            rw [qz24]; simp
          refine ⟨h14, ?_⟩
          refine ⟨by first | with_reducible rfl | rfl, ?_⟩ -- b = b
          refine ⟨by first | with_reducible rfl | rfl, ?_⟩ -- (↑b.length : Int) = (↑b.length : Int)
          refine ⟨by show n26 = (↑n26.toNat : Int); omega, ?_⟩ -- n26 = (↑n26.toNat : Int)
          refine ⟨by first | with_reducible rfl | rfl, ?_⟩ -- (0 : Nat) = (0 : Nat)
          refine ⟨by first | with_reducible rfl | rfl, ?_⟩ -- Int.toNat (0 : Int) = Int.toNat (0 : Int)
          refine ⟨by first | with_reducible rfl | rfl, ?_⟩ -- true = true
          refine ⟨by first | with_reducible rfl | rfl, ?_⟩ -- false = false
          refine ⟨by first | with_reducible rfl | rfl, ?_⟩ -- true = true
          refine ⟨by first | with_reducible rfl | rfl, ?_⟩ -- v_7.snd.snd.snd.fst = v_7.snd.snd.snd.fst
          refine ⟨by first | with_reducible rfl | rfl, ?_⟩ -- z24 = z24
          refine ⟨?_, ?_⟩
          · -- left
            refine ⟨by show n26.toNat ≤ b.length; omega, ?_⟩ -- n26.toNat ≤ b.length
            refine ⟨by show b.length ≤ (16384 : Nat); omega, ?_⟩ -- b.length ≤ (16384 : Nat)
            refine ⟨by first | omega | (dsimp only; omega), ?_⟩ -- Int.toNat (0 : Int) ≤ v_7.snd.snd.snd.fst.length ∧ Int.toNat (0 : Int) ≤ (1043 : Nat)
            have h15 : FIn bg lg (List.take n us) b n26.toNat true false (List.take (Int.toNat (0 : Int)) v_7.snd.snd.snd.fst) z24 := by
              have bx : n9 = ((b.getD v_7.fst 0).toNat : Int) := by rw [q9, Int.toNat_natCast]
              have x126 : b.getD v_7.fst 0 = 126 := byteE bx c5
              rw [List.drop_zero] at h9
              refine fin_step h3.2.2.2.1 (by omega) (by omega) (by rw [x126]; rfl) ?_
              rw [x126, emit_pc h9 c13.1 c13.2, qz24, ← h10, List.drop_zero, List.drop_zero, List.take_length, List.take_length]
              rfl
            refine ⟨h15, ?_⟩
            exact by show z24.length ≤ n26.toNat; omega -- z24.length ≤ n26.toNat
          exact by show b.length - n26.toNat < b.length - v_7.fst; omega -- b.length - n26.toNat < b.length - v_7.fst
        · -- no
          simp at c13 -- v_7.snd.fst = true → v_7.snd.snd.fst = true
          refine ⟨by first | omega | (dsimp only; omega), ?_⟩ -- (0 : Int) ≤ (0 : Int)
          refine ⟨by first | omega | (dsimp only; omega), ?_⟩ -- (0 : Int) ≤ (↑v_7.snd.snd.snd.snd.fst : Int)
          intro n29
          intro q29 -- n29 = IntKind.i64.wrap ((↑v_7.fst : Int) + (1 : Int))
          rw [IntKind.wrap_i64] at q29
          intro ⟨l29, u29⟩ -- (-9223372036854775808 : Int) ≤ n29 ∧ n29 ≤ (9223372036854775807 : Int)
          refine ⟨(n29.toNat, true, false, v_7.snd.snd.snd.fst, Int.toNat (0 : Int), v_7.snd.snd.snd.snd.snd), ?_⟩
          refine ⟨by first | with_reducible rfl | rfl, ?_⟩ -- (0 : Nat) = (0 : Nat)
          refine ⟨by first | with_reducible rfl | rfl, ?_⟩ -- v_7.snd.snd.snd.snd.snd.length = v_7.snd.snd.snd.snd.snd.length
          refine ⟨by first | with_reducible rfl | rfl, ?_⟩ -- b = b
          refine ⟨by first | with_reducible rfl | rfl, ?_⟩ -- (↑b.length : Int) = (↑b.length : Int)
          refine ⟨by show n29 = (↑n29.toNat : Int); omega, ?_⟩ -- n29 = (↑n29.toNat : Int)
          refine ⟨by first | with_reducible rfl | rfl, ?_⟩ -- (0 : Nat) = (0 : Nat)
          refine ⟨by first | with_reducible rfl | rfl, ?_⟩ -- Int.toNat (0 : Int) = Int.toNat (0 : Int)
          refine ⟨by first | with_reducible rfl | rfl, ?_⟩ -- true = true
          refine ⟨by first | with_reducible rfl | rfl, ?_⟩ -- false = false
          refine ⟨by first | with_reducible rfl | rfl, ?_⟩ -- true = true
          refine ⟨by first | with_reducible rfl | rfl, ?_⟩ -- v_7.snd.snd.snd.fst = v_7.snd.snd.snd.fst
          refine ⟨by first | with_reducible rfl | rfl, ?_⟩ -- v_7.snd.snd.snd.snd.snd = v_7.snd.snd.snd.snd.snd
          refine ⟨?_, ?_⟩
          · -- left
            refine ⟨by show n29.toNat ≤ b.length; omega, ?_⟩ -- n29.toNat ≤ b.length
            refine ⟨by show b.length ≤ (16384 : Nat); omega, ?_⟩ -- b.length ≤ (16384 : Nat)
            refine ⟨by first | omega | (dsimp only; omega), ?_⟩ -- Int.toNat (0 : Int) ≤ v_7.snd.snd.snd.fst.length ∧ Int.toNat (0 : Int) ≤ (1043 : Nat)
            have h16 : FIn bg lg (List.take n us) b n29.toNat true false (List.take (Int.toNat (0 : Int)) v_7.snd.snd.snd.fst) v_7.snd.snd.snd.snd.snd := by
              have bx : n9 = ((b.getD v_7.fst 0).toNat : Int) := by rw [q9, Int.toNat_natCast]
              have x126 : b.getD v_7.fst 0 = 126 := byteE bx c5
              exact fin_step h3.2.2.2.1 (by omega) (by omega) (by rw [x126]; rfl) (by rw [emit_no _ c13, List.append_nil])
            refine ⟨h16, ?_⟩
            exact by show v_7.snd.snd.snd.snd.snd.length ≤ n29.toNat; omega -- v_7.snd.snd.snd.snd.snd.length ≤ n29.toNat
          exact by show b.length - n29.toNat < b.length - v_7.fst; omega -- b.length - n29.toNat < b.length - v_7.fst
      · -- no
        simp at c5 -- ¬n9 = (126 : Int)
        intro n32
        intro q32 -- n32 = (↑v_7.snd.snd.snd.snd.fst : Int)
        intro ⟨l32, u32⟩ -- (-9223372036854775808 : Int) ≤ n32 ∧ n32 ≤ (9223372036854775807 : Int)
        refine brd (fun c17 => ?_) (fun c17 => ?_) -- decide (n32 ≥ (1043 : Int))
        · -- yes
          intro n35
          intro q35 -- n35 = IntKind.i64.wrap ((↑v_7.fst : Int) + (1 : Int))
          rw [IntKind.wrap_i64] at q35
          intro ⟨l35, u35⟩ -- (-9223372036854775808 : Int) ≤ n35 ∧ n35 ≤ (9223372036854775807 : Int)
          refine ⟨(n35.toNat, v_7.snd.fst, true, v_7.snd.snd.snd.fst, v_7.snd.snd.snd.snd.fst, v_7.snd.snd.snd.snd.snd), ?_⟩
          refine ⟨by first | with_reducible rfl | rfl, ?_⟩ -- (0 : Nat) = (0 : Nat)
          refine ⟨by first | with_reducible rfl | rfl, ?_⟩ -- v_7.snd.snd.snd.snd.snd.length = v_7.snd.snd.snd.snd.snd.length
          refine ⟨by first | with_reducible rfl | rfl, ?_⟩ -- b = b
          refine ⟨by first | with_reducible rfl | rfl, ?_⟩ -- (↑b.length : Int) = (↑b.length : Int)
          refine ⟨by show n35 = (↑n35.toNat : Int); omega, ?_⟩ -- n35 = (↑n35.toNat : Int)
          refine ⟨by first | with_reducible rfl | rfl, ?_⟩ -- (0 : Nat) = (0 : Nat)
          refine ⟨by first | with_reducible rfl | rfl, ?_⟩ -- v_7.snd.snd.snd.snd.fst = v_7.snd.snd.snd.snd.fst
          refine ⟨by first | with_reducible rfl | rfl, ?_⟩ -- v_7.snd.fst = v_7.snd.fst
          refine ⟨by first | with_reducible rfl | rfl, ?_⟩ -- true = true
          refine ⟨by first | with_reducible rfl | rfl, ?_⟩ -- true = true
          refine ⟨by first | with_reducible rfl | rfl, ?_⟩ -- v_7.snd.snd.snd.fst = v_7.snd.snd.snd.fst
          refine ⟨by first | with_reducible rfl | rfl, ?_⟩ -- v_7.snd.snd.snd.snd.snd = v_7.snd.snd.snd.snd.snd
          refine ⟨?_, ?_⟩
          · -- left
            refine ⟨by show n35.toNat ≤ b.length; omega, ?_⟩ -- n35.toNat ≤ b.length
            refine ⟨by show b.length ≤ (16384 : Nat); omega, ?_⟩ -- b.length ≤ (16384 : Nat)
            refine ⟨by first | omega | (dsimp only; omega), ?_⟩ -- v_7.snd.snd.snd.snd.fst ≤ v_7.snd.snd.snd.fst.length ∧ v_7.snd.snd.snd.snd.fst ≤ (1043 : Nat)
            have h18 : FIn bg lg (List.take n us) b n35.toNat v_7.snd.fst true (List.take v_7.snd.snd.snd.snd.fst v_7.snd.snd.snd.fst) v_7.snd.snd.snd.snd.snd := by
              have bx : n9 = ((b.getD v_7.fst 0).toNat : Int) := by rw [q9, Int.toNat_natCast]
              have x0 : b.getD v_7.fst 0 ≠ 126 := fun e => c5 (by rw [bx, e]; rfl)
              have lu : (List.take v_7.snd.snd.snd.snd.fst v_7.snd.snd.snd.fst).length = v_7.snd.snd.snd.snd.fst := by rw [List.length_take]; omega
              exact fin_step h3.2.2.2.1 (by omega) (by omega) (by unfold rst; rw [if_neg x0, if_pos (by rw [lu]; omega)]) (by rw [emit_oth x0, List.append_nil])
            refine ⟨h18, ?_⟩
            exact by show v_7.snd.snd.snd.snd.snd.length ≤ n35.toNat; omega -- v_7.snd.snd.snd.snd.snd.length ≤ n35.toNat
          exact by show b.length - n35.toNat < b.length - v_7.fst; omega -- b.length - n35.toNat < b.length - v_7.fst
        · -- no
          refine br_intro (fun c19 => ?_) (fun c19 => ?_) -- v_7.snd.fst
          · -- yes
            refine ⟨by first | omega | (dsimp only; omega), ?_⟩ -- (v_7.snd.snd.snd.snd.fst + (1 : Nat)) * (1 : Nat) ≤ (140737488355328 : Nat)
            intro z38
            intro qz38 -- z38 = List.take v_7.snd.snd.snd.snd.fst v_7.snd.snd.snd.fst ++ List.take (1 : Nat) (List.drop (0 : Nat) [UInt8.ofNat n9.toNat])
            intro n40
            intro q40 -- n40 = IntKind.i64.wrap ((↑v_7.fst : Int) + (1 : Int))
            rw [IntKind.wrap_i64] at q40
            intro ⟨l40, u40⟩ -- (-9223372036854775808 : Int) ≤ n40 ∧ n40 ≤ (9223372036854775807 : Int)
            refine ⟨(n40.toNat, v_7.snd.fst, v_7.snd.snd.fst, z38, v_7.snd.snd.snd.snd.fst + (1 : Nat), v_7.snd.snd.snd.snd.snd), ?_⟩
            refine ⟨by first | with_reducible rfl | rfl, ?_⟩ -- (0 : Nat) = (0 : Nat)
            refine ⟨by first | with_reducible rfl | rfl, ?_⟩ -- v_7.snd.snd.snd.snd.snd.length = v_7.snd.snd.snd.snd.snd.length
            refine ⟨by first | with_reducible rfl | rfl, ?_⟩ -- b = b
            refine ⟨by first | with_reducible rfl | rfl, ?_⟩ -- (↑b.length : Int) = (↑b.length : Int)
            refine ⟨by show n40 = (↑n40.toNat : Int); omega, ?_⟩ -- n40 = (↑n40.toNat : Int)
            refine ⟨by first | with_reducible rfl | rfl, ?_⟩ -- (0 : Nat) = (0 : Nat)
            refine ⟨by first | with_reducible rfl | rfl, ?_⟩ -- v_7.snd.snd.snd.snd.fst + (1 : Nat) = v_7.snd.snd.snd.snd.fst + (1 : Nat)
            refine ⟨by first | with_reducible rfl | rfl, ?_⟩ -- v_7.snd.fst = v_7.snd.fst
            refine ⟨by first | with_reducible rfl | rfl, ?_⟩ -- v_7.snd.snd.fst = v_7.snd.snd.fst
            refine ⟨by first | with_reducible rfl | rfl, ?_⟩ -- true = true
            refine ⟨by first | with_reducible rfl | rfl, ?_⟩ -- z38 = z38
            refine ⟨by first | with_reducible rfl | rfl, ?_⟩ -- v_7.snd.snd.snd.snd.snd = v_7.snd.snd.snd.snd.snd
            refine ⟨?_, ?_⟩
            · -- left
              refine ⟨by show n40.toNat ≤ b.length; omega, ?_⟩ -- n40.toNat ≤ b.length
              refine ⟨by show b.length ≤ (16384 : Nat); omega, ?_⟩ -- b.length ≤ (16384 : Nat)
              refine ⟨?_, ?_⟩
              · -- left
                have h20 : v_7.snd.snd.snd.snd.fst + (1 : Nat) ≤ z38.length := by
                  rw [qz38]; simp; omega
                refine ⟨h20, ?_⟩
                exact by show v_7.snd.snd.snd.snd.fst + (1 : Nat) ≤ (1043 : Nat); omega -- v_7.snd.snd.snd.snd.fst + (1 : Nat) ≤ (1043 : Nat)
              have h21 : FIn bg lg (List.take n us) b n40.toNat v_7.snd.fst v_7.snd.snd.fst (List.take (v_7.snd.snd.snd.snd.fst + (1 : Nat)) z38) v_7.snd.snd.snd.snd.snd := by
                have bx : n9 = ((b.getD v_7.fst 0).toNat : Int) := by rw [q9, Int.toNat_natCast]
                have x0 : b.getD v_7.fst 0 ≠ 126 := fun e => c5 (by rw [bx, e]; rfl)
                have lu : (List.take v_7.snd.snd.snd.snd.fst v_7.snd.snd.snd.fst).length = v_7.snd.snd.snd.snd.fst := by rw [List.length_take]; omega
                refine fin_step h3.2.2.2.1 (by omega) (by omega) ?_ (by rw [emit_oth x0, List.append_nil])
                have Z : List.take (v_7.snd.snd.snd.snd.fst + 1) z38 = List.take v_7.snd.snd.snd.snd.fst v_7.snd.snd.snd.fst ++ [b.getD v_7.fst 0] := by
                  rw [qz38, bx, Int.toNat_natCast, UInt8.ofNat_toNat, List.take_of_length_le (by simp; omega)]; rfl
                rw [Z]
                unfold rst
                rw [if_neg x0, if_neg (by rw [lu]; omega), if_pos c19]
              refine ⟨h21, ?_⟩
              exact by show v_7.snd.snd.snd.snd.snd.length ≤ n40.toNat; omega -- v_7.snd.snd.snd.snd.snd.length ≤ n40.toNat
            exact by show b.length - n40.toNat < b.length - v_7.fst; omega -- b.length - n40.toNat < b.length - v_7.fst
          · -- no
            intro n43
            intro q43 -- n43 = IntKind.i64.wrap ((↑v_7.fst : Int) + (1 : Int))
            rw [IntKind.wrap_i64] at q43
            intro ⟨l43, u43⟩ -- (-9223372036854775808 : Int) ≤ n43 ∧ n43 ≤ (9223372036854775807 : Int)
            refine ⟨(n43.toNat, v_7.snd.fst, v_7.snd.snd.fst, v_7.snd.snd.snd.fst, v_7.snd.snd.snd.snd.fst, v_7.snd.snd.snd.snd.snd), ?_⟩
            refine ⟨by first | with_reducible rfl | rfl, ?_⟩ -- (0 : Nat) = (0 : Nat)
            refine ⟨by first | with_reducible rfl | rfl, ?_⟩ -- v_7.snd.snd.snd.snd.snd.length = v_7.snd.snd.snd.snd.snd.length
            refine ⟨by first | with_reducible rfl | rfl, ?_⟩ -- b = b
            refine ⟨by first | with_reducible rfl | rfl, ?_⟩ -- (↑b.length : Int) = (↑b.length : Int)
            refine ⟨by show n43 = (↑n43.toNat : Int); omega, ?_⟩ -- n43 = (↑n43.toNat : Int)
            refine ⟨by first | with_reducible rfl | rfl, ?_⟩ -- (0 : Nat) = (0 : Nat)
            refine ⟨by first | with_reducible rfl | rfl, ?_⟩ -- v_7.snd.snd.snd.snd.fst = v_7.snd.snd.snd.snd.fst
            refine ⟨by first | with_reducible rfl | rfl, ?_⟩ -- v_7.snd.fst = v_7.snd.fst
            refine ⟨by first | with_reducible rfl | rfl, ?_⟩ -- v_7.snd.snd.fst = v_7.snd.snd.fst
            refine ⟨by first | with_reducible rfl | rfl, ?_⟩ -- true = true
            refine ⟨by first | with_reducible rfl | rfl, ?_⟩ -- v_7.snd.snd.snd.fst = v_7.snd.snd.snd.fst
            refine ⟨by first | with_reducible rfl | rfl, ?_⟩ -- v_7.snd.snd.snd.snd.snd = v_7.snd.snd.snd.snd.snd
            refine ⟨?_, ?_⟩
            · -- left
              refine ⟨by show n43.toNat ≤ b.length; omega, ?_⟩ -- n43.toNat ≤ b.length
              refine ⟨by show b.length ≤ (16384 : Nat); omega, ?_⟩ -- b.length ≤ (16384 : Nat)
              refine ⟨by first | omega | (dsimp only; omega), ?_⟩ -- v_7.snd.snd.snd.snd.fst ≤ v_7.snd.snd.snd.fst.length ∧ v_7.snd.snd.snd.snd.fst ≤ (1043 : Nat)
              have h22 : FIn bg lg (List.take n us) b n43.toNat v_7.snd.fst v_7.snd.snd.fst (List.take v_7.snd.snd.snd.snd.fst v_7.snd.snd.snd.fst) v_7.snd.snd.snd.snd.snd := by
                have bx : n9 = ((b.getD v_7.fst 0).toNat : Int) := by rw [q9, Int.toNat_natCast]
                have x0 : b.getD v_7.fst 0 ≠ 126 := fun e => c5 (by rw [bx, e]; rfl)
                have lu : (List.take v_7.snd.snd.snd.snd.fst v_7.snd.snd.snd.fst).length = v_7.snd.snd.snd.snd.fst := by rw [List.length_take]; omega
                exact fin_step h3.2.2.2.1 (by omega) (by omega) (by unfold rst; rw [if_neg x0, if_neg (by rw [lu]; omega), if_neg (by rw [c19]; decide)]) (by rw [emit_oth x0, List.append_nil])
              refine ⟨h22, ?_⟩
              exact by show v_7.snd.snd.snd.snd.snd.length ≤ n43.toNat; omega -- v_7.snd.snd.snd.snd.snd.length ≤ n43.toNat
            exact by show b.length - n43.toNat < b.length - v_7.fst; omega -- b.length - n43.toNat < b.length - v_7.fst
    · -- no
      -- k (AV.tup [AV.row (8 : Nat) (2 : Nat) (0 : Nat) v_7.snd.snd.snd.snd.snd.length, AV.int IntKind.i64 (0 : Int)]) [some (Blk.cells [AV.row (0 : Nat) (3 : Nat) (0 : Nat) v_7.snd.snd.snd.snd.fst, AV.bool v_7.snd.fst, AV.bool v_7.snd.snd.fst, AV.bool true]), none] [Blk.row (8 : Nat) v_7.snd.snd.snd.snd.snd, Blk.row (0 : Nat) v_7.snd.snd.snd.fst]
      have e : v_7.fst = b.length := by omega
      have f := h3.2.2.2.1
      rw [e] at f
      have f1 := f.c1
      have f2 := f.c2
      rw [List.take_length] at f1 f2
      exact hk.2 (by omega) _ _ _ _ _ _ f1 f2 rfl ⟨by omega, by omega⟩

theorem feed_ok : Holds Try.prog 25 feedS := by
  refine fn_soundB (env := mkEnv T4) (tab_ok T4_ok) Try.func25 Try.call25 (fun args B k h => ?_) (by decide)
  unfold feedS at h
  dsimp only at h
  split at h
  · rename_i b n bg lg us
    exact ⟨by kernel_rfl, feedLoops n bg lg us b, fun _ _ => none, .cast (by kernel_rfl) (feed_vc n bg lg us b h.1 k h.2)⟩
  · exact h.elim
def T5 : Tab := [(24, newS), (25, feedS), (37, lastS)]
theorem T5_ok : TabOk Try.prog T5 := ⟨fnewR_ok, feed_ok, flast_ok, trivial⟩
end Go.Proofs.Ytilbglkpbjamfaa

