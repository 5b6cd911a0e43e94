import Derived.Test.YtpkfadgennejnaaLkQ
namespace Go.Proofs.Ytpkfadgennejnaa
open Go Go.Eng Go.Rw Go.Lk Go.Proofs
set_option linter.unusedVariables false
set_option maxHeartbeats 2000000 in
theorem whole_vc (pl : Plan) (hl : pl.splits.length ≤ (1000000 : Nat)) (k : AV → List (Option Blk) → List Blk → Prop) (hk : (planOk pl.cycle pl.offset pl.splits → ∀ (ys : List UInt8) (n : Nat), ys.length = n → k (AV.tup [AV.row (0 : Nat) (0 : Nat) (0 : Nat) n, AV.int IntKind.i64 (0 : Int)]) [] [Blk.row (0 : Nat) ys]) ∧ (¬planOk pl.cycle pl.offset pl.splits → k (AV.tup [AV.nilsl, AV.int IntKind.i64 (170 : Int)]) [] [])) :
  ∀ (n1 : Int),
  (n1 = (↑[pl].length : Int)) →
  ((-9223372036854775808 : Int) ≤ n1 ∧ n1 ≤ (9223372036854775807 : Int)) →
  br (decide (n1 > (8 : Int)))
   ((k (AV.tup [AV.nilsl, AV.int IntKind.i64 (4 : Int)]) [] []))
   (∀ (n4 : Int),
    (n4 = (↑[pl].length : Int)) →
    ((-9223372036854775808 : Int) ≤ n4 ∧ n4 ≤ (9223372036854775807 : Int)) →
    ((List.take (1 : Nat) (List.drop (0 : Nat) [n4])).length ≤ (1000000 : Nat)) ∧
    ∀ (ys_7 : List UInt8),
    ∀ (n_8 : Nat),
    (ys_7 = sms (List.take (1 : Nat) (List.drop (0 : Nat) [n4]))) →
    (ys_7.length = n_8) →
    ∀ (n11 : Int),
    (n11 = (↑[pl].length : Int)) →
    ((-9223372036854775808 : Int) ≤ n11 ∧ n11 ≤ (9223372036854775807 : Int)) →
    (
     ∃ (v : Nat × Nat × List UInt8),
     ((0 : Nat) = (0 : Nat)) ∧
     (n_8 = v.snd.fst) ∧
     ([pl] = [pl]) ∧
     (n11 = (1 : Int)) ∧
     ((0 : Int) = (↑v.fst : Int)) ∧
     (ys_7 = v.snd.snd) ∧
     (v.fst ≤ (1 : Nat)) ∧
     (pl.splits.length ≤ (1000000 : Nat)) ∧
     (v.snd.snd.length = v.snd.fst) ∧
     (v.snd.fst ≤ (10 : Nat) + (200 : Nat) * v.fst) ∧
     ((v.fst = (1 : Nat)) →
     (planOk pl.cycle pl.offset pl.splits))) ∧
    ∀ (v_14 : Nat × Nat × List UInt8),
    (v_14.fst ≤ (1 : Nat) ∧ pl.splits.length ≤ (1000000 : Nat) ∧ v_14.snd.snd.length = v_14.snd.fst ∧ v_14.snd.fst ≤ (10 : Nat) + (200 : Nat) * v_14.fst ∧ (v_14.fst = (1 : Nat) → planOk pl.cycle pl.offset pl.splits)) →
    br (decide ((↑v_14.fst : Int) < (1 : Int)))
     (((0 : Int) ≤ (↑v_14.fst : Int)) ∧
      ((↑v_14.fst : Int) < (↑[pl].length : Int)) ∧
      ∀ (n16 : Int),
      (n16 = ([pl].getD (↑v_14.fst : Int).toNat (dflt (10 : Nat))).cycle) →
      ((-9223372036854775808 : Int) ≤ n16 ∧ n16 ≤ (9223372036854775807 : Int)) →
      (
       ((-9223372036854775808 : Int) ≤ n16) ∧
       (n16 ≤ (9223372036854775807 : Int))) ∧
      ∀ (r_19 : Bool),
      (r_19 = true ↔ (1 : Int) ≤ n16 ∧ n16 ≤ (1048576 : Int)) →
      ∀ (n21 : Int),
      (n21 = ([pl].getD (↑v_14.fst : Int).toNat (dflt (10 : Nat))).offset) →
      ∀ (n23 : Int),
      (n23 = ([pl].getD (↑v_14.fst : Int).toNat (dflt (10 : Nat))).cycle) →
      ∀ (n25 : Int),
      (n25 = IntKind.i64.wrap (n23 - (1 : Int))) →
      br (!r_19)
       ((true = true) ∧
        ∀ (n27 : Int),
        (n27 = (↑([pl].getD (↑v_14.fst : Int).toNat (dflt (10 : Nat))).splits.length : Int)) →
        (true = true) ∧
        (k (AV.tup [AV.nilsl, AV.int IntKind.i64 (170 : Int)]) [] []))
       (∀ (r_28 : Bool),
        (r_28 = true ↔ (0 : Int) ≤ n21 ∧ n21 ≤ n25) →
        ∀ (n30 : Int),
        (n30 = (↑([pl].getD (↑v_14.fst : Int).toNat (dflt (10 : Nat))).splits.length : Int)) →
        br (bif false then true else !r_28)
         ((true = true) ∧
          (k (AV.tup [AV.nilsl, AV.int IntKind.i64 (170 : Int)]) [] []))
         (∀ (r_32 : Bool),
          (r_32 = true ↔ (1 : Int) ≤ n30 ∧ n30 ≤ (8 : Int)) →
          br (bif false then true else !r_32)
           ((k (AV.tup [AV.nilsl, AV.int IntKind.i64 (170 : Int)]) [] []))
           (∀ (n34 : Int),
            (n34 = ([pl].getD (↑v_14.fst : Int).toNat (dflt (10 : Nat))).cycle) →
            ((-9223372036854775808 : Int) ≤ n34 ∧ n34 ≤ (9223372036854775807 : Int)) →
            ∀ (n37 : Int),
            (n37 = ([pl].getD (↑v_14.fst : Int).toNat (dflt (10 : Nat))).offset) →
            ((-9223372036854775808 : Int) ≤ n37 ∧ n37 ≤ (9223372036854775807 : Int)) →
            ∀ (n40 : Int),
            (n40 = (↑([pl].getD (↑v_14.fst : Int).toNat (dflt (10 : Nat))).splits.length : Int)) →
            ((-9223372036854775808 : Int) ≤ n40 ∧ n40 ≤ (9223372036854775807 : Int)) →
            (
             (v_14.snd.fst = v_14.snd.snd.length) ∧
             (v_14.snd.fst ≤ (1000000 : Nat)) ∧
             ((List.take (3 : Nat) (List.drop (0 : Nat) [n34, n37, n40])).length ≤ (1000000 : Nat))) ∧
            ∀ (ys_43 : List UInt8),
            ∀ (n_44 : Nat),
            (ys_43 = v_14.snd.snd ++ sms (List.take (3 : Nat) (List.drop (0 : Nat) [n34, n37, n40]))) →
            (ys_43.length = n_44) →
            ∀ (n47 : Int),
            (n47 = (↑([pl].getD (↑v_14.fst : Int).toNat (dflt (10 : Nat))).splits.length : Int)) →
            ((-9223372036854775808 : Int) ≤ n47 ∧ n47 ≤ (9223372036854775807 : Int)) →
            (
             ∃ (v : Nat × Nat × List UInt8),
             ((0 : Nat) = (0 : Nat)) ∧
             (n_44 = v.snd.fst) ∧
             ([pl] = [pl]) ∧
             ((1 : Int) = (1 : Int)) ∧
             ((↑v_14.fst : Int) = (0 : Int)) ∧
             (([pl].getD (↑v_14.fst : Int).toNat (dflt (10 : Nat))).splits = pl.splits) ∧
             (n47 = (↑pl.splits.length : Int)) ∧
             ((0 : Int) = (↑v.fst : Int)) ∧
             (ys_43 = v.snd.snd) ∧
             (v.fst ≤ pl.splits.length) ∧
             (
              ((1 : Nat) ≤ pl.splits.length) ∧
              (pl.splits.length ≤ (8 : Nat))) ∧
             (v.snd.snd.length = v.snd.fst) ∧
             (v.snd.fst ≤ (100 : Nat) + (10 : Nat) * v.fst) ∧
             (
              ((1 : Int) ≤ pl.cycle) ∧
              (pl.cycle ≤ (1048576 : Int))) ∧
             (
              ((0 : Int) ≤ pl.offset) ∧
              (pl.offset ≤ pl.cycle - (1 : Int))) ∧
             (allIn (1048576 : Int) pl.splits v.fst)) ∧
            ∀ (v_50 : Nat × Nat × List UInt8),
            (v_50.fst ≤ pl.splits.length ∧ ((1 : Nat) ≤ pl.splits.length ∧ pl.splits.length ≤ (8 : Nat)) ∧ v_50.snd.snd.length = v_50.snd.fst ∧ v_50.snd.fst ≤ (100 : Nat) + (10 : Nat) * v_50.fst ∧ ((1 : Int) ≤ pl.cycle ∧ pl.cycle ≤ (1048576 : Int)) ∧ ((0 : Int) ≤ pl.offset ∧ pl.offset ≤ pl.cycle - (1 : Int)) ∧ allIn (1048576 : Int) pl.splits v_50.fst) →
            br (decide ((↑v_50.fst : Int) < (↑pl.splits.length : Int)))
             (((0 : Int) ≤ (↑v_50.fst : Int)) ∧
              ((↑v_50.fst : Int) < (↑pl.splits.length : Int)) ∧
              ∀ (n52 : Int),
              (n52 = pl.splits.getD (↑v_50.fst : Int).toNat (0 : Int)) →
              ((-9223372036854775808 : Int) ≤ n52 ∧ n52 ≤ (9223372036854775807 : Int)) →
              ∀ (r_55 : Bool),
              (r_55 = true ↔ (0 : Int) ≤ n52 ∧ n52 ≤ (1048576 : Int)) →
              br (!r_55)
               ((k (AV.tup [AV.nilsl, AV.int IntKind.i64 (170 : Int)]) [] []))
               ((
                 (v_50.snd.fst = v_50.snd.snd.length) ∧
                 (v_50.snd.fst ≤ (1000000 : Nat)) ∧
                 ((List.take (1 : Nat) (List.drop (0 : Nat) [n52])).length ≤ (1000000 : Nat))) ∧
                ∀ (ys_57 : List UInt8),
                ∀ (n_58 : Nat),
                (ys_57 = v_50.snd.snd ++ sms (List.take (1 : Nat) (List.drop (0 : Nat) [n52]))) →
                (ys_57.length = n_58) →
                ∀ (n61 : Int),
                (n61 = IntKind.i64.wrap ((↑v_50.fst : Int) + (1 : Int))) →
                ((-9223372036854775808 : Int) ≤ n61 ∧ n61 ≤ (9223372036854775807 : Int)) →
                ∃ (v' : Nat × Nat × List UInt8),
                ((0 : Nat) = (0 : Nat)) ∧
                (n_58 = v'.snd.fst) ∧
                ([pl] = [pl]) ∧
                ((1 : Int) = (1 : Int)) ∧
                ((0 : Int) = (0 : Int)) ∧
                (pl.splits = pl.splits) ∧
                ((↑pl.splits.length : Int) = (↑pl.splits.length : Int)) ∧
                (n61 = (↑v'.fst : Int)) ∧
                (ys_57 = v'.snd.snd) ∧
                (
                 (v'.fst ≤ pl.splits.length) ∧
                 (
                  ((1 : Nat) ≤ pl.splits.length) ∧
                  (pl.splits.length ≤ (8 : Nat))) ∧
                 (v'.snd.snd.length = v'.snd.fst) ∧
                 (v'.snd.fst ≤ (100 : Nat) + (10 : Nat) * v'.fst) ∧
                 (
                  ((1 : Int) ≤ pl.cycle) ∧
                  (pl.cycle ≤ (1048576 : Int))) ∧
                 (
                  ((0 : Int) ≤ pl.offset) ∧
                  (pl.offset ≤ pl.cycle - (1 : Int))) ∧
                 (allIn (1048576 : Int) pl.splits v'.fst)) ∧
                (pl.splits.length - v'.fst < pl.splits.length - v_50.fst)))
             (∀ (n64 : Int),
              (n64 = IntKind.i64.wrap ((0 : Int) + (1 : Int))) →
              ((-9223372036854775808 : Int) ≤ n64 ∧ n64 ≤ (9223372036854775807 : Int)) →
              ∃ (v' : Nat × Nat × List UInt8),
              ((0 : Nat) = (0 : Nat)) ∧
              (v_50.snd.fst = v'.snd.fst) ∧
              ([pl] = [pl]) ∧
              ((1 : Int) = (1 : Int)) ∧
              (n64 = (↑v'.fst : Int)) ∧
              (v_50.snd.snd = v'.snd.snd) ∧
              (
               (v'.fst ≤ (1 : Nat)) ∧
               (pl.splits.length ≤ (1000000 : Nat)) ∧
               (v'.snd.snd.length = v'.snd.fst) ∧
               (v'.snd.fst ≤ (10 : Nat) + (200 : Nat) * v'.fst) ∧
               ((v'.fst = (1 : Nat)) →
               (planOk pl.cycle pl.offset pl.splits))) ∧
              ((1 : Nat) - v'.fst < (1 : Nat) - v_14.fst))))))
     ((k (AV.tup [AV.row (0 : Nat) (0 : Nat) (0 : Nat) v_14.snd.fst, AV.int IntKind.i64 (0 : Int)]) [] [Blk.row (0 : Nat) v_14.snd.snd]))) := by
  intro n1
  intro q1 -- n1 = (↑[pl].length : Int)
  intro ⟨l1, u1⟩ -- (-9223372036854775808 : Int) ≤ n1 ∧ n1 ≤ (9223372036854775807 : Int)
  refine brd (fun c1 => ?_) (fun c1 => ?_) -- decide (n1 > (8 : Int))
  · -- yes
    -- k (AV.tup [AV.nilsl, AV.int IntKind.i64 (4 : Int)]) [] []
    have q1x : n1 = 1 := q1
    omega
  · -- no
    intro n4
    intro q4 -- n4 = (↑[pl].length : Int)
    intro ⟨l4, u4⟩ -- (-9223372036854775808 : Int) ≤ n4 ∧ n4 ≤ (9223372036854775807 : Int)
    have h2 : (List.take (1 : Nat) (List.drop (0 : Nat) [n4])).length ≤ (1000000 : Nat) := by
      simp
    refine ⟨h2, ?_⟩
    intro ys_7
    intro n_8
    intro h3 -- ys_7 = sms (List.take (1 : Nat) (List.drop (0 : Nat) [n4]))
    intro h4 -- ys_7.length = n_8
    intro n11
    intro q11 -- n11 = (↑[pl].length : Int)
    intro ⟨l11, u11⟩ -- (-9223372036854775808 : Int) ≤ n11 ∧ n11 ≤ (9223372036854775807 : Int)
    refine ⟨?_, ?_⟩
    · -- left
      refine ⟨(Int.toNat (0 : Int), n_8, ys_7), ?_⟩
      refine ⟨by first | with_reducible rfl | rfl, ?_⟩ -- (0 : Nat) = (0 : Nat)
      refine ⟨by first | with_reducible rfl | rfl, ?_⟩ -- n_8 = n_8
      refine ⟨by first | with_reducible rfl | rfl, ?_⟩ -- [pl] = [pl]
      refine ⟨by show n11 = (1 : Int); assumption, ?_⟩ -- n11 = (1 : Int)
      refine ⟨by show (0 : Int) = (↑(Int.toNat (0 : Int)) : Int); omega, ?_⟩ -- (0 : Int) = (↑(Int.toNat (0 : Int)) : Int)
      refine ⟨by first | with_reducible rfl | rfl, ?_⟩ -- ys_7 = ys_7
      refine ⟨by show Int.toNat (0 : Int) ≤ (1 : Nat); omega, ?_⟩ -- Int.toNat (0 : Int) ≤ (1 : Nat)
      refine ⟨by show pl.splits.length ≤ (1000000 : Nat); assumption, ?_⟩ -- pl.splits.length ≤ (1000000 : Nat)
      refine ⟨by show ys_7.length = n_8; assumption, ?_⟩ -- ys_7.length = n_8
      have h5 : n_8 ≤ (10 : Nat) + (200 : Nat) * Int.toNat (0 : Int) := by
        have := sms_le h3 h4 (k := 1) (by simp)
        omega
      refine ⟨h5, ?_⟩
      intro h6 -- Int.toNat (0 : Int) = (1 : Nat)
      exact by show planOk pl.cycle pl.offset pl.splits; omega -- planOk pl.cycle pl.offset pl.splits
    intro v_14
    intro h7 -- v_14.fst ≤ (1 : Nat) ∧ pl.splits.length ≤ (1000000 : Nat) ∧ v_14.snd.snd.length = v_14.snd.fst ∧ v_14.snd.fst ≤ (10 : Nat) + (200 : Nat) * v_14.fst ∧ (v_14.fst = (1 : Nat) → planOk pl.cycle pl.offset pl.splits)
    refine brd (fun c8 => ?_) (fun c8 => ?_) -- decide ((↑v_14.fst : Int) < (1 : Int))
    · -- yes
      refine ⟨by first | omega | (dsimp only; omega), ?_⟩ -- (0 : Int) ≤ (↑v_14.fst : Int)
      refine ⟨by assumption, ?_⟩ -- (↑v_14.fst : Int) < (↑[pl].length : Int)
      intro n16
      intro q16 -- n16 = ([pl].getD (↑v_14.fst : Int).toNat (dflt (10 : Nat))).cycle
      intro ⟨l16, u16⟩ -- (-9223372036854775808 : Int) ≤ n16 ∧ n16 ≤ (9223372036854775807 : Int)
      refine ⟨by exact ⟨by assumption, by assumption⟩, ?_⟩ -- (-9223372036854775808 : Int) ≤ n16 ∧ n16 ≤ (9223372036854775807 : Int)
      intro r_19
      intro h9 -- r_19 = true ↔ (1 : Int) ≤ n16 ∧ n16 ≤ (1048576 : Int)
      intro n21
      intro q21 -- n21 = ([pl].getD (↑v_14.fst : Int).toNat (dflt (10 : Nat))).offset
      intro n23
      intro q23 -- n23 = ([pl].getD (↑v_14.fst : Int).toNat (dflt (10 : Nat))).cycle
      intro n25
      intro q25 -- n25 = IntKind.i64.wrap (n23 - (1 : Int))
      rw [IntKind.wrap_i64] at q25
      refine br_intro (fun c10 => ?_) (fun c10 => ?_) -- !r_19
      · -- yes
        simp at c10 -- r_19 = false
        refine ⟨by with_reducible rfl, ?_⟩ -- true = true
        intro n27
        intro q27 -- n27 = (↑([pl].getD (↑v_14.fst : Int).toNat (dflt (10 : Nat))).splits.length : Int)
        refine ⟨by with_reducible rfl, ?_⟩ -- true = true
        -- k (AV.tup [AV.nilsl, AV.int IntKind.i64 (170 : Int)]) [] []
        have pg : [pl].getD (v_14.fst : Int).toNat (dflt 10) = pl := by rw [show (v_14.fst : Int).toNat = 0 by omega]; rfl
        simp only [pg] at *
        refine hk.2 fun p => ?_
        have p1 := p.a
        have pp : r_19 = true := h9.2 (by omega)
        rw [c10] at pp; cases pp
      · -- no
        simp at c10 -- r_19 = true
        intro r_28
        intro h11 -- r_28 = true ↔ (0 : Int) ≤ n21 ∧ n21 ≤ n25
        intro n30
        intro q30 -- n30 = (↑([pl].getD (↑v_14.fst : Int).toNat (dflt (10 : Nat))).splits.length : Int)
        refine br_intro (fun c12 => ?_) (fun c12 => ?_) -- bif false then true else !r_28
        · -- yes
          simp at c12 -- r_28 = false
          refine ⟨by with_reducible rfl, ?_⟩ -- true = true
          -- k (AV.tup [AV.nilsl, AV.int IntKind.i64 (170 : Int)]) [] []
          have pg : [pl].getD (v_14.fst : Int).toNat (dflt 10) = pl := by rw [show (v_14.fst : Int).toNat = 0 by omega]; rfl
          simp only [pg] at *
          refine hk.2 fun p => ?_
          have p1 := p.a
          have p2 := p.b
          have pp : r_28 = true := h11.2 (by omega)
          rw [c12] at pp; cases pp
        · -- no
          simp at c12 -- r_28 = true
          intro r_32
          intro h13 -- r_32 = true ↔ (1 : Int) ≤ n30 ∧ n30 ≤ (8 : Int)
          refine br_intro (fun c14 => ?_) (fun c14 => ?_) -- bif false then true else !r_32
          · -- yes
            simp at c14 -- r_32 = false
            -- k (AV.tup [AV.nilsl, AV.int IntKind.i64 (170 : Int)]) [] []
            have pg : [pl].getD (v_14.fst : Int).toNat (dflt 10) = pl := by rw [show (v_14.fst : Int).toNat = 0 by omega]; rfl
            simp only [pg] at *
            refine hk.2 fun p => ?_
            have p1 := p.c
            have pp : r_32 = true := h13.2 (by omega)
            rw [c14] at pp; cases pp
          · -- no
            simp at c14 -- r_32 = true
            intro n34
            intro q34 -- n34 = ([pl].getD (↑v_14.fst : Int).toNat (dflt (10 : Nat))).cycle
            intro ⟨l34, u34⟩ -- (-9223372036854775808 : Int) ≤ n34 ∧ n34 ≤ (9223372036854775807 : Int)
            intro n37
            intro q37 -- n37 = ([pl].getD (↑v_14.fst : Int).toNat (dflt (10 : Nat))).offset
            intro ⟨l37, u37⟩ -- (-9223372036854775808 : Int) ≤ n37 ∧ n37 ≤ (9223372036854775807 : Int)
            intro n40
            intro q40 -- n40 = (↑([pl].getD (↑v_14.fst : Int).toNat (dflt (10 : Nat))).splits.length : Int)
            intro ⟨l40, u40⟩ -- (-9223372036854775808 : Int) ≤ n40 ∧ n40 ≤ (9223372036854775807 : Int)
            refine ⟨?_, ?_⟩
            · -- left
              refine ⟨by first | omega | (dsimp only; omega), ?_⟩ -- v_14.snd.fst = v_14.snd.snd.length
              refine ⟨by first | omega | (dsimp only; omega), ?_⟩ -- v_14.snd.fst ≤ (1000000 : Nat)
              -- (List.take (3 : Nat) (List.drop (0 : Nat) [n34, n37, n40])).length ≤ (1000000 : Nat)
              simp
            intro ys_43
            intro n_44
            intro h15 -- ys_43 = v_14.snd.snd ++ sms (List.take (3 : Nat) (List.drop (0 : Nat) [n34, n37, n40]))
            intro h16 -- ys_43.length = n_44
            intro n47
            intro q47 -- n47 = (↑([pl].getD (↑v_14.fst : Int).toNat (dflt (10 : Nat))).splits.length : Int)
            intro ⟨l47, u47⟩ -- (-9223372036854775808 : Int) ≤ n47 ∧ n47 ≤ (9223372036854775807 : Int)
            refine ⟨?_, ?_⟩
            · -- left
              refine ⟨(Int.toNat (0 : Int), n_44, ys_43), ?_⟩
              refine ⟨by first | with_reducible rfl | rfl, ?_⟩ -- (0 : Nat) = (0 : Nat)
              refine ⟨by first | with_reducible rfl | rfl, ?_⟩ -- n_44 = n_44
              refine ⟨by first | with_reducible rfl | rfl, ?_⟩ -- [pl] = [pl]
              refine ⟨by first | with_reducible rfl | rfl, ?_⟩ -- (1 : Int) = (1 : Int)
              refine ⟨by show (↑v_14.fst : Int) = (0 : Int); omega, ?_⟩ -- (↑v_14.fst : Int) = (0 : Int)
              have h17 : ([pl].getD (↑v_14.fst : Int).toNat (dflt (10 : Nat))).splits = pl.splits := by
                have pg : [pl].getD (v_14.fst : Int).toNat (dflt 10) = pl := by rw [show (v_14.fst : Int).toNat = 0 by omega]; rfl
                rw [pg]
              refine ⟨h17, ?_⟩
              have h18 : n47 = (↑pl.splits.length : Int) := by
                have pg : [pl].getD (v_14.fst : Int).toNat (dflt 10) = pl := by rw [show (v_14.fst : Int).toNat = 0 by omega]; rfl
                rw [q47, pg]
              refine ⟨h18, ?_⟩
              refine ⟨by show (0 : Int) = (↑(Int.toNat (0 : Int)) : Int); omega, ?_⟩ -- (0 : Int) = (↑(Int.toNat (0 : Int)) : Int)
              refine ⟨by first | with_reducible rfl | rfl, ?_⟩ -- ys_43 = ys_43
              refine ⟨by show Int.toNat (0 : Int) ≤ pl.splits.length; omega, ?_⟩ -- Int.toNat (0 : Int) ≤ pl.splits.length
              refine ⟨?_, ?_⟩
              · -- left
                have h19 : (1 : Nat) ≤ pl.splits.length := by
                  have pg : [pl].getD (v_14.fst : Int).toNat (dflt 10) = pl := by rw [show (v_14.fst : Int).toNat = 0 by omega]; rfl
                  simp only [pg] at *
                  have := h13.1 c14
                  omega
                refine ⟨h19, ?_⟩
                -- pl.splits.length ≤ (8 : Nat)
                have pg : [pl].getD (v_14.fst : Int).toNat (dflt 10) = pl := by rw [show (v_14.fst : Int).toNat = 0 by omega]; rfl
                simp only [pg] at *
                have := h13.1 c14
                omega
              refine ⟨by show ys_43.length = n_44; assumption, ?_⟩ -- ys_43.length = n_44
              have h20 : n_44 ≤ (100 : Nat) + (10 : Nat) * Int.toNat (0 : Int) := by
                have e := congrArg List.length h15
                rw [List.length_append] at e
                have s := sms_len (List.take 3 (List.drop 0 [n34, n37, n40]))
                have t : (List.take 3 (List.drop 0 [n34, n37, n40])).length ≤ 3 := by simp
                omega
              refine ⟨h20, ?_⟩
              refine ⟨?_, ?_⟩
              · -- left
                have h21 : (1 : Int) ≤ pl.cycle := by
                  have pg : [pl].getD (v_14.fst : Int).toNat (dflt 10) = pl := by rw [show (v_14.fst : Int).toNat = 0 by omega]; rfl
                  simp only [pg] at *
                  have a1 := h9.1 c10
                  have a2 := h11.1 c12
                  omega
                refine ⟨h21, ?_⟩
                -- pl.cycle ≤ (1048576 : Int)
                have pg : [pl].getD (v_14.fst : Int).toNat (dflt 10) = pl := by rw [show (v_14.fst : Int).toNat = 0 by omega]; rfl
                simp only [pg] at *
                have a1 := h9.1 c10
                have a2 := h11.1 c12
                omega
              refine ⟨?_, ?_⟩
              · -- left
                have h22 : (0 : Int) ≤ pl.offset := by
                  have pg : [pl].getD (v_14.fst : Int).toNat (dflt 10) = pl := by rw [show (v_14.fst : Int).toNat = 0 by omega]; rfl
                  simp only [pg] at *
                  have a1 := h9.1 c10
                  have a2 := h11.1 c12
                  omega
                refine ⟨h22, ?_⟩
                -- pl.offset ≤ pl.cycle - (1 : Int)
                have pg : [pl].getD (v_14.fst : Int).toNat (dflt 10) = pl := by rw [show (v_14.fst : Int).toNat = 0 by omega]; rfl
                simp only [pg] at *
                have a1 := h9.1 c10
                have a2 := h11.1 c12
                omega
              -- allIn (1048576 : Int) pl.splits (Int.toNat (0 : Int))
              exact ⟨fun x hx => by simp at hx⟩
            intro v_50
            intro h23 -- v_50.fst ≤ pl.splits.length ∧ ((1 : Nat) ≤ pl.splits.length ∧ pl.splits.length ≤ (8 : Nat)) ∧ v_50.snd.snd.length = v_50.snd.fst ∧ v_50.snd.fst ≤ (100 : Nat) + (10 : Nat) * v_50.fst ∧ ((1 : Int) ≤ pl.cycle ∧ pl.cycle ≤ (1048576 : Int)) ∧ ((0 : Int) ≤ pl.offset ∧ pl.offset ≤ pl.cycle - (1 : Int)) ∧ allIn (1048576 : Int) pl.splits v_50.fst
            refine brd (fun c24 => ?_) (fun c24 => ?_) -- decide ((↑v_50.fst : Int) < (↑pl.splits.length : Int))
            · -- yes
              refine ⟨by first | omega | (dsimp only; omega), ?_⟩ -- (0 : Int) ≤ (↑v_50.fst : Int)
              refine ⟨by assumption, ?_⟩ -- (↑v_50.fst : Int) < (↑pl.splits.length : Int)
              intro n52
              intro q52 -- n52 = pl.splits.getD (↑v_50.fst : Int).toNat (0 : Int)
              intro ⟨l52, u52⟩ -- (-9223372036854775808 : Int) ≤ n52 ∧ n52 ≤ (9223372036854775807 : Int)
              intro r_55
              intro h25 -- r_55 = true ↔ (0 : Int) ≤ n52 ∧ n52 ≤ (1048576 : Int)
              refine br_intro (fun c26 => ?_) (fun c26 => ?_) -- !r_55
              · -- yes
                simp at c26 -- r_55 = false
                -- k (AV.tup [AV.nilsl, AV.int IntKind.i64 (170 : Int)]) [] []
                refine hk.2 fun p => ?_
                rw [Int.toNat_natCast] at q52
                have m := p.d _ (mem_getD (l := pl.splits) (i := v_50.fst) (by omega))
                have pp : r_55 = true := h25.2 (by omega)
                rw [c26] at pp; cases pp
              · -- no
                simp at c26 -- r_55 = true
                refine ⟨?_, ?_⟩
                · -- left
                  refine ⟨by first | omega | (dsimp only; omega), ?_⟩ -- v_50.snd.fst = v_50.snd.snd.length
                  refine ⟨by first | omega | (dsimp only; omega), ?_⟩ -- v_50.snd.fst ≤ (1000000 : Nat)
                  exact by assumption -- (List.take (1 : Nat) (List.drop (0 : Nat) [n52])).length ≤ (1000000 : Nat)
                intro ys_57
                intro n_58
                intro h27 -- ys_57 = v_50.snd.snd ++ sms (List.take (1 : Nat) (List.drop (0 : Nat) [n52]))
                intro h28 -- ys_57.length = n_58
                intro n61
                intro q61 -- n61 = IntKind.i64.wrap ((↑v_50.fst : Int) + (1 : Int))
                rw [IntKind.wrap_i64] at q61
                intro ⟨l61, u61⟩ -- (-9223372036854775808 : Int) ≤ n61 ∧ n61 ≤ (9223372036854775807 : Int)
                refine ⟨(n61.toNat, n_58, ys_57), ?_⟩
                refine ⟨by first | with_reducible rfl | rfl, ?_⟩ -- (0 : Nat) = (0 : Nat)
                refine ⟨by first | with_reducible rfl | rfl, ?_⟩ -- n_58 = n_58
                refine ⟨by first | with_reducible rfl | rfl, ?_⟩ -- [pl] = [pl]
                refine ⟨by first | with_reducible rfl | rfl, ?_⟩ -- (1 : Int) = (1 : Int)
                refine ⟨by first | with_reducible rfl | rfl, ?_⟩ -- (0 : Int) = (0 : Int)
                refine ⟨by first | with_reducible rfl | rfl, ?_⟩ -- pl.splits = pl.splits
                refine ⟨by first | with_reducible rfl | rfl, ?_⟩ -- (↑pl.splits.length : Int) = (↑pl.splits.length : Int)
                refine ⟨by show n61 = (↑n61.toNat : Int); omega, ?_⟩ -- n61 = (↑n61.toNat : Int)
                refine ⟨by first | with_reducible rfl | rfl, ?_⟩ -- ys_57 = ys_57
                refine ⟨?_, ?_⟩
                · -- left
                  refine ⟨by show n61.toNat ≤ pl.splits.length; omega, ?_⟩ -- n61.toNat ≤ pl.splits.length
                  refine ⟨by first | omega | (dsimp only; omega), ?_⟩ -- (1 : Nat) ≤ pl.splits.length ∧ pl.splits.length ≤ (8 : Nat)
                  refine ⟨by show ys_57.length = n_58; assumption, ?_⟩ -- ys_57.length = n_58
                  have h29 : n_58 ≤ (100 : Nat) + (10 : Nat) * n61.toNat := by
                    have e := congrArg List.length h27
                    rw [List.length_append] at e
                    have s := sms_len (List.take 1 (List.drop 0 [n52]))
                    have t : (List.take 1 (List.drop 0 [n52])).length ≤ 1 := by simp
                    omega
                  refine ⟨h29, ?_⟩
                  refine ⟨by first | omega | (dsimp only; omega), ?_⟩ -- (1 : Int) ≤ pl.cycle ∧ pl.cycle ≤ (1048576 : Int)
                  refine ⟨by first | omega | (dsimp only; omega), ?_⟩ -- (0 : Int) ≤ pl.offset ∧ pl.offset ≤ pl.cycle - (1 : Int)
                  -- allIn (1048576 : Int) pl.splits n61.toNat
                  rw [Int.toNat_natCast] at q52
                  have a1 := h25.1 c26
                  exact allin_step h23.2.2.2.2.2.2 (by omega) (by omega) (by omega)
                exact by show pl.splits.length - n61.toNat < pl.splits.length - v_50.fst; omega -- pl.splits.length - n61.toNat < pl.splits.length - v_50.fst
            · -- no
              intro n64
              intro q64 -- n64 = IntKind.i64.wrap ((0 : Int) + (1 : Int))
              rw [IntKind.wrap_i64] at q64
              intro ⟨l64, u64⟩ -- (-9223372036854775808 : Int) ≤ n64 ∧ n64 ≤ (9223372036854775807 : Int)
              refine ⟨(n64.toNat, v_50.snd.fst, v_50.snd.snd), ?_⟩
              refine ⟨by first | with_reducible rfl | rfl, ?_⟩ -- (0 : Nat) = (0 : Nat)
              refine ⟨by first | with_reducible rfl | rfl, ?_⟩ -- v_50.snd.fst = v_50.snd.fst
              refine ⟨by first | with_reducible rfl | rfl, ?_⟩ -- [pl] = [pl]
              refine ⟨by first | with_reducible rfl | rfl, ?_⟩ -- (1 : Int) = (1 : Int)
              refine ⟨by show n64 = (↑n64.toNat : Int); omega, ?_⟩ -- n64 = (↑n64.toNat : Int)
              refine ⟨by first | with_reducible rfl | rfl, ?_⟩ -- v_50.snd.snd = v_50.snd.snd
              refine ⟨?_, ?_⟩
              · -- left
                refine ⟨by show n64.toNat ≤ (1 : Nat); omega, ?_⟩ -- n64.toNat ≤ (1 : Nat)
                refine ⟨by show pl.splits.length ≤ (1000000 : Nat); assumption, ?_⟩ -- pl.splits.length ≤ (1000000 : Nat)
                refine ⟨by show v_50.snd.snd.length = v_50.snd.fst; omega, ?_⟩ -- v_50.snd.snd.length = v_50.snd.fst
                refine ⟨by show v_50.snd.fst ≤ (10 : Nat) + (200 : Nat) * n64.toNat; omega, ?_⟩ -- v_50.snd.fst ≤ (10 : Nat) + (200 : Nat) * n64.toNat
                intro h30 -- n64.toNat = (1 : Nat)
                -- planOk pl.cycle pl.offset pl.splits
                exact ⟨h23.2.2.2.2.1, h23.2.2.2.2.2.1, h23.2.1, allin_end h23.2.2.2.2.2.2 (by omega)⟩
              exact by show (1 : Nat) - n64.toNat < (1 : Nat) - v_14.fst; omega -- (1 : Nat) - n64.toNat < (1 : Nat) - v_14.fst
    · -- no
      -- k (AV.tup [AV.row (0 : Nat) (0 : Nat) (0 : Nat) v_14.snd.fst, AV.int IntKind.i64 (0 : Int)]) [] [Blk.row (0 : Nat) v_14.snd.snd]
      exact hk.1 (h7.2.2.2.2 (by omega)) _ _ h7.2.2.1

theorem whole_ok : Holds Try.prog 35 wholeS := by
  refine fn_sound (env := mkEnv M2) (tab_ok M2_ok) Try.func35 Try.call35 fun args k h => ?_
  match args, h with
  | [.sl 10 [pl]], h => exact ⟨by kernel_rfl, wholeLoops pl, fun _ _ => none, .cast (by kernel_rfl) (whole_vc pl h.1 k h.2)⟩
set_option maxHeartbeats 2000000 in
theorem rwhole_vc (pl : Plan) (hl : pl.splits.length ≤ (1000000 : Nat)) (k : AV → List (Option Blk) → List Blk → Prop) (hk : (planOk pl.cycle pl.offset pl.splits → ∀ (ys : List UInt8) (n : Nat), ys.length = n → k (AV.tup [AV.row (0 : Nat) (0 : Nat) (0 : Nat) n, AV.int IntKind.i64 (0 : Int)]) [] [Blk.row (0 : Nat) ys]) ∧ (¬planOk pl.cycle pl.offset pl.splits → k (AV.tup [AV.nilsl, AV.int IntKind.i64 (170 : Int)]) [] [])) :
  ∀ (n1 : Int),
  (n1 = (↑[pl].length : Int)) →
  ((-9223372036854775808 : Int) ≤ n1 ∧ n1 ≤ (9223372036854775807 : Int)) →
  br (decide (n1 > (8 : Int)))
   ((k (AV.tup [AV.nilsl, AV.int IntKind.i64 (4 : Int)]) [] []))
   (∀ (n4 : Int),
    (n4 = (↑[pl].length : Int)) →
    ((-9223372036854775808 : Int) ≤ n4 ∧ n4 ≤ (9223372036854775807 : Int)) →
    ((List.take (1 : Nat) (List.drop (0 : Nat) [n4])).length ≤ (1000000 : Nat)) ∧
    ∀ (ys_7 : List UInt8),
    ∀ (n_8 : Nat),
    (ys_7 = sms (List.take (1 : Nat) (List.drop (0 : Nat) [n4]))) →
    (ys_7.length = n_8) →
    (
     ∃ (v : Nat × Nat × List UInt8),
     ([pl] = [pl]) ∧
     ((0 : Nat) = (0 : Nat)) ∧
     (n_8 = v.snd.fst) ∧
     ((0 : Int) = (↑v.fst : Int)) ∧
     (ys_7 = v.snd.snd) ∧
     (v.fst ≤ (1 : Nat)) ∧
     (pl.splits.length ≤ (1000000 : Nat)) ∧
     (v.snd.snd.length = v.snd.fst) ∧
     (v.snd.fst ≤ (10 : Nat) + (200 : Nat) * v.fst) ∧
     ((v.fst = (1 : Nat)) →
     (planOk pl.cycle pl.offset pl.splits))) ∧
    ∀ (v_11 : Nat × Nat × List UInt8),
    (v_11.fst ≤ (1 : Nat) ∧ pl.splits.length ≤ (1000000 : Nat) ∧ v_11.snd.snd.length = v_11.snd.fst ∧ v_11.snd.fst ≤ (10 : Nat) + (200 : Nat) * v_11.fst ∧ (v_11.fst = (1 : Nat) → planOk pl.cycle pl.offset pl.splits)) →
    ∀ (n13 : Int),
    (n13 = (↑[pl].length : Int)) →
    ((-9223372036854775808 : Int) ≤ n13 ∧ n13 ≤ (9223372036854775807 : Int)) →
    br (decide ((↑v_11.fst : Int) < n13))
     (((0 : Int) ≤ (↑v_11.fst : Int)) ∧
      ((↑v_11.fst : Int) < (↑[pl].length : Int)) ∧
      ∀ (n16 : Int),
      (n16 = ([pl].getD (↑v_11.fst : Int).toNat (dflt (10 : Nat))).cycle) →
      ((-9223372036854775808 : Int) ≤ n16 ∧ n16 ≤ (9223372036854775807 : Int)) →
      ∀ (r_19 : Bool),
      (r_19 = true ↔ (1 : Int) ≤ n16 ∧ n16 ≤ (1048576 : Int)) →
      ∀ (n21 : Int),
      (n21 = ([pl].getD (↑v_11.fst : Int).toNat (dflt (10 : Nat))).offset) →
      ∀ (n23 : Int),
      (n23 = ([pl].getD (↑v_11.fst : Int).toNat (dflt (10 : Nat))).cycle) →
      ∀ (n25 : Int),
      (n25 = IntKind.i64.wrap (n23 - (1 : Int))) →
      br (!r_19)
       ((true = true) ∧
        ∀ (n27 : Int),
        (n27 = (↑([pl].getD (↑v_11.fst : Int).toNat (dflt (10 : Nat))).splits.length : Int)) →
        (true = true) ∧
        (k (AV.tup [AV.nilsl, AV.int IntKind.i64 (170 : Int)]) [] []))
       (∀ (r_28 : Bool),
        (r_28 = true ↔ (0 : Int) ≤ n21 ∧ n21 ≤ n25) →
        ∀ (n30 : Int),
        (n30 = (↑([pl].getD (↑v_11.fst : Int).toNat (dflt (10 : Nat))).splits.length : Int)) →
        br (bif false then true else !r_28)
         ((true = true) ∧
          (k (AV.tup [AV.nilsl, AV.int IntKind.i64 (170 : Int)]) [] []))
         (∀ (r_32 : Bool),
          (r_32 = true ↔ (1 : Int) ≤ n30 ∧ n30 ≤ (8 : Int)) →
          br (bif false then true else !r_32)
           ((k (AV.tup [AV.nilsl, AV.int IntKind.i64 (170 : Int)]) [] []))
           (∀ (n34 : Int),
            (n34 = ([pl].getD (↑v_11.fst : Int).toNat (dflt (10 : Nat))).cycle) →
            ((-9223372036854775808 : Int) ≤ n34 ∧ n34 ≤ (9223372036854775807 : Int)) →
            ∀ (n37 : Int),
            (n37 = ([pl].getD (↑v_11.fst : Int).toNat (dflt (10 : Nat))).offset) →
            ((-9223372036854775808 : Int) ≤ n37 ∧ n37 ≤ (9223372036854775807 : Int)) →
            ∀ (n40 : Int),
            (n40 = (↑([pl].getD (↑v_11.fst : Int).toNat (dflt (10 : Nat))).splits.length : Int)) →
            ((-9223372036854775808 : Int) ≤ n40 ∧ n40 ≤ (9223372036854775807 : Int)) →
            ((List.take (3 : Nat) (List.drop (0 : Nat) [n34, n37, n40])).length ≤ (1000000 : Nat)) ∧
            ∀ (ys_43 : List UInt8),
            ∀ (n_44 : Nat),
            (ys_43 = sms (List.take (3 : Nat) (List.drop (0 : Nat) [n34, n37, n40]))) →
            (ys_43.length = n_44) →
            ((v_11.snd.fst + n_44) * (1 : Nat) ≤ (140737488355328 : Nat)) ∧
            ∀ (z47 : List UInt8),
            (z47 = List.take v_11.snd.fst v_11.snd.snd ++ List.take n_44 (List.drop (0 : Nat) ys_43)) →
            (
             ∃ (v : Nat × Nat × List UInt8),
             ([pl] = [pl]) ∧
             ((0 : Nat) = (0 : Nat)) ∧
             (v_11.snd.fst + n_44 = v.snd.fst) ∧
             ((↑v_11.fst : Int) = (0 : Int)) ∧
             ((0 : Int) = (↑v.fst : Int)) ∧
             (([pl].getD (↑v_11.fst : Int).toNat (dflt (10 : Nat))).cycle = pl.cycle) ∧
             (([pl].getD (↑v_11.fst : Int).toNat (dflt (10 : Nat))).offset = pl.offset) ∧
             (([pl].getD (↑v_11.fst : Int).toNat (dflt (10 : Nat))).splits = pl.splits) ∧
             (z47 = v.snd.snd) ∧
             (v.fst ≤ pl.splits.length) ∧
             (
              ((1 : Nat) ≤ pl.splits.length) ∧
              (pl.splits.length ≤ (8 : Nat))) ∧
             (v.snd.snd.length = v.snd.fst) ∧
             (v.snd.fst ≤ (100 : Nat) + (10 : Nat) * v.fst) ∧
             (
              ((1 : Int) ≤ pl.cycle) ∧
              (pl.cycle ≤ (1048576 : Int))) ∧
             (
              ((0 : Int) ≤ pl.offset) ∧
              (pl.offset ≤ pl.cycle - (1 : Int))) ∧
             (allIn (1048576 : Int) pl.splits v.fst)) ∧
            ∀ (v_49 : Nat × Nat × List UInt8),
            (v_49.fst ≤ pl.splits.length ∧ ((1 : Nat) ≤ pl.splits.length ∧ pl.splits.length ≤ (8 : Nat)) ∧ v_49.snd.snd.length = v_49.snd.fst ∧ v_49.snd.fst ≤ (100 : Nat) + (10 : Nat) * v_49.fst ∧ ((1 : Int) ≤ pl.cycle ∧ pl.cycle ≤ (1048576 : Int)) ∧ ((0 : Int) ≤ pl.offset ∧ pl.offset ≤ pl.cycle - (1 : Int)) ∧ allIn (1048576 : Int) pl.splits v_49.fst) →
            ∀ (n51 : Int),
            (n51 = (↑pl.splits.length : Int)) →
            ((-9223372036854775808 : Int) ≤ n51 ∧ n51 ≤ (9223372036854775807 : Int)) →
            br (decide ((↑v_49.fst : Int) < n51))
             (((0 : Int) ≤ (↑v_49.fst : Int)) ∧
              ((↑v_49.fst : Int) < (↑pl.splits.length : Int)) ∧
              ∀ (n54 : Int),
              (n54 = pl.splits.getD (↑v_49.fst : Int).toNat (0 : Int)) →
              ((-9223372036854775808 : Int) ≤ n54 ∧ n54 ≤ (9223372036854775807 : Int)) →
              ∀ (r_57 : Bool),
              (r_57 = true ↔ (0 : Int) ≤ n54 ∧ n54 ≤ (1048576 : Int)) →
              br (!r_57)
               ((k (AV.tup [AV.nilsl, AV.int IntKind.i64 (170 : Int)]) [] []))
               (((0 : Int) ≤ (↑v_49.fst : Int)) ∧
                ((↑v_49.fst : Int) < (↑pl.splits.length : Int)) ∧
                ∀ (n59 : Int),
                (n59 = pl.splits.getD (↑v_49.fst : Int).toNat (0 : Int)) →
                ((-9223372036854775808 : Int) ≤ n59 ∧ n59 ≤ (9223372036854775807 : Int)) →
                ((List.take (1 : Nat) (List.drop (0 : Nat) [n59])).length ≤ (1000000 : Nat)) ∧
                ∀ (ys_62 : List UInt8),
                ∀ (n_63 : Nat),
                (ys_62 = sms (List.take (1 : Nat) (List.drop (0 : Nat) [n59]))) →
                (ys_62.length = n_63) →
                ((v_49.snd.fst + n_63) * (1 : Nat) ≤ (140737488355328 : Nat)) ∧
                ∀ (z66 : List UInt8),
                (z66 = List.take v_49.snd.fst v_49.snd.snd ++ List.take n_63 (List.drop (0 : Nat) ys_62)) →
                ∀ (n68 : Int),
                (n68 = IntKind.i64.wrap ((↑v_49.fst : Int) + (1 : Int))) →
                ((-9223372036854775808 : Int) ≤ n68 ∧ n68 ≤ (9223372036854775807 : Int)) →
                ∃ (v' : Nat × Nat × List UInt8),
                ([pl] = [pl]) ∧
                ((0 : Nat) = (0 : Nat)) ∧
                (v_49.snd.fst + n_63 = v'.snd.fst) ∧
                ((0 : Int) = (0 : Int)) ∧
                (n68 = (↑v'.fst : Int)) ∧
                (pl.cycle = pl.cycle) ∧
                (pl.offset = pl.offset) ∧
                (pl.splits = pl.splits) ∧
                (z66 = v'.snd.snd) ∧
                (
                 (v'.fst ≤ pl.splits.length) ∧
                 (
                  ((1 : Nat) ≤ pl.splits.length) ∧
                  (pl.splits.length ≤ (8 : Nat))) ∧
                 (v'.snd.snd.length = v'.snd.fst) ∧
                 (v'.snd.fst ≤ (100 : Nat) + (10 : Nat) * v'.fst) ∧
                 (
                  ((1 : Int) ≤ pl.cycle) ∧
                  (pl.cycle ≤ (1048576 : Int))) ∧
                 (
                  ((0 : Int) ≤ pl.offset) ∧
                  (pl.offset ≤ pl.cycle - (1 : Int))) ∧
                 (allIn (1048576 : Int) pl.splits v'.fst)) ∧
                (pl.splits.length - v'.fst < pl.splits.length - v_49.fst)))
             (∀ (n71 : Int),
              (n71 = IntKind.i64.wrap ((0 : Int) + (1 : Int))) →
              ((-9223372036854775808 : Int) ≤ n71 ∧ n71 ≤ (9223372036854775807 : Int)) →
              ∃ (v' : Nat × Nat × List UInt8),
              ([pl] = [pl]) ∧
              ((0 : Nat) = (0 : Nat)) ∧
              (v_49.snd.fst = v'.snd.fst) ∧
              (n71 = (↑v'.fst : Int)) ∧
              (v_49.snd.snd = v'.snd.snd) ∧
              (
               (v'.fst ≤ (1 : Nat)) ∧
               (pl.splits.length ≤ (1000000 : Nat)) ∧
               (v'.snd.snd.length = v'.snd.fst) ∧
               (v'.snd.fst ≤ (10 : Nat) + (200 : Nat) * v'.fst) ∧
               ((v'.fst = (1 : Nat)) →
               (planOk pl.cycle pl.offset pl.splits))) ∧
              ((1 : Nat) - v'.fst < (1 : Nat) - v_11.fst))))))
     ((k (AV.tup [AV.row (0 : Nat) (0 : Nat) (0 : Nat) v_11.snd.fst, AV.int IntKind.i64 (0 : Int)]) [] [Blk.row (0 : Nat) v_11.snd.snd]))) := by
  intro n1
  intro q1 -- n1 = (↑[pl].length : Int)
  intro ⟨l1, u1⟩ -- (-9223372036854775808 : Int) ≤ n1 ∧ n1 ≤ (9223372036854775807 : Int)
  refine brd (fun c1 => ?_) (fun c1 => ?_) -- decide (n1 > (8 : Int))
  · -- yes
    -- k (AV.tup [AV.nilsl, AV.int IntKind.i64 (4 : Int)]) [] []
    have q1x : n1 = 1 := q1
    omega
  · -- no
    intro n4
    intro q4 -- n4 = (↑[pl].length : Int)
    intro ⟨l4, u4⟩ -- (-9223372036854775808 : Int) ≤ n4 ∧ n4 ≤ (9223372036854775807 : Int)
    have h2 : (List.take (1 : Nat) (List.drop (0 : Nat) [n4])).length ≤ (1000000 : Nat) := by
      simp
    refine ⟨h2, ?_⟩
    intro ys_7
    intro n_8
    intro h3 -- ys_7 = sms (List.take (1 : Nat) (List.drop (0 : Nat) [n4]))
    intro h4 -- ys_7.length = n_8
    refine ⟨?_, ?_⟩
    · -- left
      refine ⟨(Int.toNat (0 : Int), n_8, ys_7), ?_⟩
      refine ⟨by first | with_reducible rfl | rfl, ?_⟩ -- [pl] = [pl]
      refine ⟨by first | with_reducible rfl | rfl, ?_⟩ -- (0 : Nat) = (0 : Nat)
      refine ⟨by first | with_reducible rfl | rfl, ?_⟩ -- n_8 = n_8
      refine ⟨by show (0 : Int) = (↑(Int.toNat (0 : Int)) : Int); omega, ?_⟩ -- (0 : Int) = (↑(Int.toNat (0 : Int)) : Int)
      refine ⟨by first | with_reducible rfl | rfl, ?_⟩ -- ys_7 = ys_7
      refine ⟨by show Int.toNat (0 : Int) ≤ (1 : Nat); omega, ?_⟩ -- Int.toNat (0 : Int) ≤ (1 : Nat)
      refine ⟨by show pl.splits.length ≤ (1000000 : Nat); assumption, ?_⟩ -- pl.splits.length ≤ (1000000 : Nat)
      refine ⟨by show ys_7.length = n_8; assumption, ?_⟩ -- ys_7.length = n_8
      have h5 : n_8 ≤ (10 : Nat) + (200 : Nat) * Int.toNat (0 : Int) := by
        have := sms_le h3 h4 (k := 1) (by simp)
        omega
      refine ⟨h5, ?_⟩
      intro h6 -- Int.toNat (0 : Int) = (1 : Nat)
      exact by show planOk pl.cycle pl.offset pl.splits; omega -- planOk pl.cycle pl.offset pl.splits
    intro v_11
    intro h7 -- v_11.fst ≤ (1 : Nat) ∧ pl.splits.length ≤ (1000000 : Nat) ∧ v_11.snd.snd.length = v_11.snd.fst ∧ v_11.snd.fst ≤ (10 : Nat) + (200 : Nat) * v_11.fst ∧ (v_11.fst = (1 : Nat) → planOk pl.cycle pl.offset pl.splits)
    intro n13
    intro q13 -- n13 = (↑[pl].length : Int)
    intro ⟨l13, u13⟩ -- (-9223372036854775808 : Int) ≤ n13 ∧ n13 ≤ (9223372036854775807 : Int)
    refine brd (fun c8 => ?_) (fun c8 => ?_) -- decide ((↑v_11.fst : Int) < n13)
    · -- yes
      refine ⟨by first | omega | (dsimp only; omega), ?_⟩ -- (0 : Int) ≤ (↑v_11.fst : Int)
      refine ⟨by first | omega | (dsimp only; omega), ?_⟩ -- (↑v_11.fst : Int) < (↑[pl].length : Int)
      intro n16
      intro q16 -- n16 = ([pl].getD (↑v_11.fst : Int).toNat (dflt (10 : Nat))).cycle
      intro ⟨l16, u16⟩ -- (-9223372036854775808 : Int) ≤ n16 ∧ n16 ≤ (9223372036854775807 : Int)
      intro r_19
      intro h9 -- r_19 = true ↔ (1 : Int) ≤ n16 ∧ n16 ≤ (1048576 : Int)
      intro n21
      intro q21 -- n21 = ([pl].getD (↑v_11.fst : Int).toNat (dflt (10 : Nat))).offset
      intro n23
      intro q23 -- n23 = ([pl].getD (↑v_11.fst : Int).toNat (dflt (10 : Nat))).cycle
      intro n25
      intro q25 -- n25 = IntKind.i64.wrap (n23 - (1 : Int))
      rw [IntKind.wrap_i64] at q25
      refine br_intro (fun c10 => ?_) (fun c10 => ?_) -- !r_19
      · -- yes
        simp at c10 -- r_19 = false
        refine ⟨by with_reducible rfl, ?_⟩ -- true = true
        intro n27
        intro q27 -- n27 = (↑([pl].getD (↑v_11.fst : Int).toNat (dflt (10 : Nat))).splits.length : Int)
        refine ⟨by with_reducible rfl, ?_⟩ -- true = true
        -- k (AV.tup [AV.nilsl, AV.int IntKind.i64 (170 : Int)]) [] []
        have q13x : n13 = 1 := q13
        have pg : [pl].getD (v_11.fst : Int).toNat (dflt 10) = pl := by rw [show (v_11.fst : Int).toNat = 0 by omega]; rfl
        simp only [pg] at *
        refine hk.2 fun p => ?_
        have p1 := p.a
        have pp : r_19 = true := h9.2 (by omega)
        rw [c10] at pp; cases pp
      · -- no
        simp at c10 -- r_19 = true
        intro r_28
        intro h11 -- r_28 = true ↔ (0 : Int) ≤ n21 ∧ n21 ≤ n25
        intro n30
        intro q30 -- n30 = (↑([pl].getD (↑v_11.fst : Int).toNat (dflt (10 : Nat))).splits.length : Int)
        refine br_intro (fun c12 => ?_) (fun c12 => ?_) -- bif false then true else !r_28
        · -- yes
          simp at c12 -- r_28 = false
          refine ⟨by with_reducible rfl, ?_⟩ -- true = true
          -- k (AV.tup [AV.nilsl, AV.int IntKind.i64 (170 : Int)]) [] []
          have q13x : n13 = 1 := q13
          have pg : [pl].getD (v_11.fst : Int).toNat (dflt 10) = pl := by rw [show (v_11.fst : Int).toNat = 0 by omega]; rfl
          simp only [pg] at *
          refine hk.2 fun p => ?_
          have p1 := p.a
          have p2 := p.b
          have pp : r_28 = true := h11.2 (by omega)
          rw [c12] at pp; cases pp
        · -- no
          simp at c12 -- r_28 = true
          intro r_32
          intro h13 -- r_32 = true ↔ (1 : Int) ≤ n30 ∧ n30 ≤ (8 : Int)
          refine br_intro (fun c14 => ?_) (fun c14 => ?_) -- bif false then true else !r_32
          · -- yes
            simp at c14 -- r_32 = false
            -- k (AV.tup [AV.nilsl, AV.int IntKind.i64 (170 : Int)]) [] []
            have q13x : n13 = 1 := q13
            have pg : [pl].getD (v_11.fst : Int).toNat (dflt 10) = pl := by rw [show (v_11.fst : Int).toNat = 0 by omega]; rfl
            simp only [pg] at *
            refine hk.2 fun p => ?_
            have p1 := p.c
            have pp : r_32 = true := h13.2 (by omega)
            rw [c14] at pp; cases pp
          · -- no
            simp at c14 -- r_32 = true
            intro n34
            intro q34 -- n34 = ([pl].getD (↑v_11.fst : Int).toNat (dflt (10 : Nat))).cycle
            intro ⟨l34, u34⟩ -- (-9223372036854775808 : Int) ≤ n34 ∧ n34 ≤ (9223372036854775807 : Int)
            intro n37
            intro q37 -- n37 = ([pl].getD (↑v_11.fst : Int).toNat (dflt (10 : Nat))).offset
            intro ⟨l37, u37⟩ -- (-9223372036854775808 : Int) ≤ n37 ∧ n37 ≤ (9223372036854775807 : Int)
            intro n40
            intro q40 -- n40 = (↑([pl].getD (↑v_11.fst : Int).toNat (dflt (10 : Nat))).splits.length : Int)
            intro ⟨l40, u40⟩ -- (-9223372036854775808 : Int) ≤ n40 ∧ n40 ≤ (9223372036854775807 : Int)
            have h15 : (List.take (3 : Nat) (List.drop (0 : Nat) [n34, n37, n40])).length ≤ (1000000 : Nat) := by
              simp
            refine ⟨h15, ?_⟩
            intro ys_43
            intro n_44
            intro h16 -- ys_43 = sms (List.take (3 : Nat) (List.drop (0 : Nat) [n34, n37, n40]))
            intro h17 -- ys_43.length = n_44
            have h18 : (v_11.snd.fst + n_44) * (1 : Nat) ≤ (140737488355328 : Nat) := by
              have := sms_le h16 h17 (k := 3) (by simp)
              omega
            refine ⟨h18, ?_⟩
            intro z47
            intro qz47 -- z47 = List.take v_11.snd.fst v_11.snd.snd ++ List.take n_44 (List.drop (0 : Nat) ys_43)
            refine ⟨?_, ?_⟩
            · -- left
              refine ⟨(Int.toNat (0 : Int), v_11.snd.fst + n_44, z47), ?_⟩
              refine ⟨by first | with_reducible rfl | rfl, ?_⟩ -- [pl] = [pl]
              refine ⟨by first | with_reducible rfl | rfl, ?_⟩ -- (0 : Nat) = (0 : Nat)
              refine ⟨by first | with_reducible rfl | rfl, ?_⟩ -- v_11.snd.fst + n_44 = v_11.snd.fst + n_44
              have h19 : (↑v_11.fst : Int) = (0 : Int) := by
                have q13x : n13 = 1 := q13
                omega
              refine ⟨h19, ?_⟩
              refine ⟨by show (0 : Int) = (↑(Int.toNat (0 : Int)) : Int); omega, ?_⟩ -- (0 : Int) = (↑(Int.toNat (0 : Int)) : Int)
              have h20 : ([pl].getD (↑v_11.fst : Int).toNat (dflt (10 : Nat))).cycle = pl.cycle := by
                have q13x : n13 = 1 := q13
                have pg : [pl].getD (v_11.fst : Int).toNat (dflt 10) = pl := by rw [show (v_11.fst : Int).toNat = 0 by omega]; rfl
                rw [pg]
              refine ⟨h20, ?_⟩
              have h21 : ([pl].getD (↑v_11.fst : Int).toNat (dflt (10 : Nat))).offset = pl.offset := by
                have q13x : n13 = 1 := q13
                have pg : [pl].getD (v_11.fst : Int).toNat (dflt 10) = pl := by rw [show (v_11.fst : Int).toNat = 0 by omega]; rfl
                rw [pg]
              refine ⟨h21, ?_⟩
              have h22 : ([pl].getD (↑v_11.fst : Int).toNat (dflt (10 : Nat))).splits = pl.splits := by
                have q13x : n13 = 1 := q13
                have pg : [pl].getD (v_11.fst : Int).toNat (dflt 10) = pl := by rw [show (v_11.fst : Int).toNat = 0 by omega]; rfl
                rw [pg]
              refine ⟨h22, ?_⟩
              refine ⟨by first | with_reducible rfl | rfl, ?_⟩ -- z47 = z47
              refine ⟨by show Int.toNat (0 : Int) ≤ pl.splits.length; omega, ?_⟩ -- Int.toNat (0 : Int) ≤ pl.splits.length
              refine ⟨?_, ?_⟩
              · -- left
                have h23 : (1 : Nat) ≤ pl.splits.length := by
                  have q13x : n13 = 1 := q13
                  have pg : [pl].getD (v_11.fst : Int).toNat (dflt 10) = pl := by rw [show (v_11.fst : Int).toNat = 0 by omega]; rfl
                  simp only [pg] at *
                  have := h13.1 c14
                  omega
                refine ⟨h23, ?_⟩
                -- pl.splits.length ≤ (8 : Nat)
                have q13x : n13 = 1 := q13
                have pg : [pl].getD (v_11.fst : Int).toNat (dflt 10) = pl := by rw [show (v_11.fst : Int).toNat = 0 by omega]; rfl
                simp only [pg] at *
                have := h13.1 c14
                omega
              have h24 : z47.length = v_11.snd.fst + n_44 := by
                rw [qz47, List.length_append, List.length_take, List.length_take, List.length_drop]; omega
              refine ⟨h24, ?_⟩
              have h25 : v_11.snd.fst + n_44 ≤ (100 : Nat) + (10 : Nat) * Int.toNat (0 : Int) := by
                have q13x : n13 = 1 := q13
                have := sms_le h16 h17 (k := 3) (by simp)
                omega
              refine ⟨h25, ?_⟩
              refine ⟨?_, ?_⟩
              · -- left
                have h26 : (1 : Int) ≤ pl.cycle := by
                  have q13x : n13 = 1 := q13
                  have pg : [pl].getD (v_11.fst : Int).toNat (dflt 10) = pl := by rw [show (v_11.fst : Int).toNat = 0 by omega]; rfl
                  simp only [pg] at *
                  have a1 := h9.1 c10
                  have a2 := h11.1 c12
                  omega
                refine ⟨h26, ?_⟩
                -- pl.cycle ≤ (1048576 : Int)
                have q13x : n13 = 1 := q13
                have pg : [pl].getD (v_11.fst : Int).toNat (dflt 10) = pl := by rw [show (v_11.fst : Int).toNat = 0 by omega]; rfl
                simp only [pg] at *
                have a1 := h9.1 c10
                have a2 := h11.1 c12
                omega
              refine ⟨?_, ?_⟩
              · -- left
                have h27 : (0 : Int) ≤ pl.offset := by
                  have q13x : n13 = 1 := q13
                  have pg : [pl].getD (v_11.fst : Int).toNat (dflt 10) = pl := by rw [show (v_11.fst : Int).toNat = 0 by omega]; rfl
                  simp only [pg] at *
                  have a1 := h9.1 c10
                  have a2 := h11.1 c12
                  omega
                refine ⟨h27, ?_⟩
                -- pl.offset ≤ pl.cycle - (1 : Int)
                have q13x : n13 = 1 := q13
                have pg : [pl].getD (v_11.fst : Int).toNat (dflt 10) = pl := by rw [show (v_11.fst : Int).toNat = 0 by omega]; rfl
                simp only [pg] at *
                have a1 := h9.1 c10
                have a2 := h11.1 c12
                omega
              -- allIn (1048576 : Int) pl.splits (Int.toNat (0 : Int))
              exact ⟨fun x hx => by simp at hx⟩
            intro v_49
            intro h28 -- v_49.fst ≤ pl.splits.length ∧ ((1 : Nat) ≤ pl.splits.length ∧ pl.splits.length ≤ (8 : Nat)) ∧ v_49.snd.snd.length = v_49.snd.fst ∧ v_49.snd.fst ≤ (100 : Nat) + (10 : Nat) * v_49.fst ∧ ((1 : Int) ≤ pl.cycle ∧ pl.cycle ≤ (1048576 : Int)) ∧ ((0 : Int) ≤ pl.offset ∧ pl.offset ≤ pl.cycle - (1 : Int)) ∧ allIn (1048576 : Int) pl.splits v_49.fst
            intro n51
            intro q51 -- n51 = (↑pl.splits.length : Int)
            intro ⟨l51, u51⟩ -- (-9223372036854775808 : Int) ≤ n51 ∧ n51 ≤ (9223372036854775807 : Int)
            refine brd (fun c29 => ?_) (fun c29 => ?_) -- decide ((↑v_49.fst : Int) < n51)
            · -- yes
              refine ⟨by first | omega | (dsimp only; omega), ?_⟩ -- (0 : Int) ≤ (↑v_49.fst : Int)
              refine ⟨by first | omega | (dsimp only; omega), ?_⟩ -- (↑v_49.fst : Int) < (↑pl.splits.length : Int)
              intro n54
              intro q54 -- n54 = pl.splits.getD (↑v_49.fst : Int).toNat (0 : Int)
              intro ⟨l54, u54⟩ -- (-9223372036854775808 : Int) ≤ n54 ∧ n54 ≤ (9223372036854775807 : Int)
              intro r_57
              intro h30 -- r_57 = true ↔ (0 : Int) ≤ n54 ∧ n54 ≤ (1048576 : Int)
              refine br_intro (fun c31 => ?_) (fun c31 => ?_) -- !r_57
              · -- yes
                simp at c31 -- r_57 = false
                -- k (AV.tup [AV.nilsl, AV.int IntKind.i64 (170 : Int)]) [] []
                refine hk.2 fun p => ?_
                rw [Int.toNat_natCast] at q54
                have m := p.d _ (mem_getD (l := pl.splits) (i := v_49.fst) (by omega))
                have pp : r_57 = true := h30.2 (by omega)
                rw [c31] at pp; cases pp
              · -- no
                simp at c31 -- r_57 = true
                refine ⟨by first | omega | (dsimp only; omega), ?_⟩ -- (0 : Int) ≤ (↑v_49.fst : Int)
                refine ⟨by first | omega | (dsimp only; omega), ?_⟩ -- (↑v_49.fst : Int) < (↑pl.splits.length : Int)
                intro n59
                intro q59 -- n59 = pl.splits.getD (↑v_49.fst : Int).toNat (0 : Int)
                intro ⟨l59, u59⟩ -- (-9223372036854775808 : Int) ≤ n59 ∧ n59 ≤ (9223372036854775807 : Int)
                refine ⟨by assumption, ?_⟩ -- (List.take (1 : Nat) (List.drop (0 : Nat) [n59])).length ≤ (1000000 : Nat)
                intro ys_62
                intro n_63
                intro h32 -- ys_62 = sms (List.take (1 : Nat) (List.drop (0 : Nat) [n59]))
                intro h33 -- ys_62.length = n_63
                have h34 : (v_49.snd.fst + n_63) * (1 : Nat) ≤ (140737488355328 : Nat) := by
                  have := sms_le h32 h33 (k := 1) (by simp)
                  omega
                refine ⟨h34, ?_⟩
                intro z66
                intro qz66 -- z66 = List.take v_49.snd.fst v_49.snd.snd ++ List.take n_63 (List.drop (0 : Nat) ys_62)
                intro n68
                intro q68 -- n68 = IntKind.i64.wrap ((↑v_49.fst : Int) + (1 : Int))
                rw [IntKind.wrap_i64] at q68
                intro ⟨l68, u68⟩ -- (-9223372036854775808 : Int) ≤ n68 ∧ n68 ≤ (9223372036854775807 : Int)
                refine ⟨(n68.toNat, v_49.snd.fst + n_63, z66), ?_⟩
                refine ⟨by first | with_reducible rfl | rfl, ?_⟩ -- [pl] = [pl]
                refine ⟨by first | with_reducible rfl | rfl, ?_⟩ -- (0 : Nat) = (0 : Nat)
                refine ⟨by first | with_reducible rfl | rfl, ?_⟩ -- v_49.snd.fst + n_63 = v_49.snd.fst + n_63
                refine ⟨by first | with_reducible rfl | rfl, ?_⟩ -- (0 : Int) = (0 : Int)
                refine ⟨by show n68 = (↑n68.toNat : Int); omega, ?_⟩ -- n68 = (↑n68.toNat : Int)
                refine ⟨by first | with_reducible rfl | rfl, ?_⟩ -- pl.cycle = pl.cycle
                refine ⟨by first | with_reducible rfl | rfl, ?_⟩ -- pl.offset = pl.offset
                refine ⟨by first | with_reducible rfl | rfl, ?_⟩ -- pl.splits = pl.splits
                refine ⟨by first | with_reducible rfl | rfl, ?_⟩ -- z66 = z66
                refine ⟨?_, ?_⟩
                · -- left
                  refine ⟨by show n68.toNat ≤ pl.splits.length; omega, ?_⟩ -- n68.toNat ≤ pl.splits.length
                  refine ⟨by first | omega | (dsimp only; omega), ?_⟩ -- (1 : Nat) ≤ pl.splits.length ∧ pl.splits.length ≤ (8 : Nat)
                  have h35 : z66.length = v_49.snd.fst + n_63 := by
                    rw [qz66, List.length_append, List.length_take, List.length_take, List.length_drop]; omega
                  refine ⟨h35, ?_⟩
                  have h36 : v_49.snd.fst + n_63 ≤ (100 : Nat) + (10 : Nat) * n68.toNat := by
                    have := sms_le h32 h33 (k := 1) (by simp)
                    omega
                  refine ⟨h36, ?_⟩
                  refine ⟨by first | omega | (dsimp only; omega), ?_⟩ -- (1 : Int) ≤ pl.cycle ∧ pl.cycle ≤ (1048576 : Int)
                  refine ⟨by first | omega | (dsimp only; omega), ?_⟩ -- (0 : Int) ≤ pl.offset ∧ pl.offset ≤ pl.cycle - (1 : Int)
                  -- allIn (1048576 : Int) pl.splits n68.toNat
                  rw [Int.toNat_natCast] at q54
                  have a1 := h30.1 c31
                  exact allin_step h28.2.2.2.2.2.2 (by omega) (by omega) (by omega)
                exact by show pl.splits.length - n68.toNat < pl.splits.length - v_49.fst; omega -- pl.splits.length - n68.toNat < pl.splits.length - v_49.fst
            · -- no
              intro n71
              intro q71 -- n71 = IntKind.i64.wrap ((0 : Int) + (1 : Int))
              rw [IntKind.wrap_i64] at q71
              intro ⟨l71, u71⟩ -- (-9223372036854775808 : Int) ≤ n71 ∧ n71 ≤ (9223372036854775807 : Int)
              refine ⟨(n71.toNat, v_49.snd.fst, v_49.snd.snd), ?_⟩
              refine ⟨by first | with_reducible rfl | rfl, ?_⟩ -- [pl] = [pl]
              refine ⟨by first | with_reducible rfl | rfl, ?_⟩ -- (0 : Nat) = (0 : Nat)
              refine ⟨by first | with_reducible rfl | rfl, ?_⟩ -- v_49.snd.fst = v_49.snd.fst
              refine ⟨by show n71 = (↑n71.toNat : Int); omega, ?_⟩ -- n71 = (↑n71.toNat : Int)
              refine ⟨by first | with_reducible rfl | rfl, ?_⟩ -- v_49.snd.snd = v_49.snd.snd
              refine ⟨?_, ?_⟩
              · -- left
                refine ⟨by show n71.toNat ≤ (1 : Nat); omega, ?_⟩ -- n71.toNat ≤ (1 : Nat)
                refine ⟨by show pl.splits.length ≤ (1000000 : Nat); assumption, ?_⟩ -- pl.splits.length ≤ (1000000 : Nat)
                refine ⟨by show v_49.snd.snd.length = v_49.snd.fst; omega, ?_⟩ -- v_49.snd.snd.length = v_49.snd.fst
                refine ⟨by show v_49.snd.fst ≤ (10 : Nat) + (200 : Nat) * n71.toNat; omega, ?_⟩ -- v_49.snd.fst ≤ (10 : Nat) + (200 : Nat) * n71.toNat
                intro h37 -- n71.toNat = (1 : Nat)
                -- planOk pl.cycle pl.offset pl.splits
                exact ⟨h28.2.2.2.2.1, h28.2.2.2.2.2.1, h28.2.1, allin_end h28.2.2.2.2.2.2 (by omega)⟩
              -- (1 : Nat) - n71.toNat < (1 : Nat) - v_11.fst
              have q13x : n13 = 1 := q13
              omega
    · -- no
      -- k (AV.tup [AV.row (0 : Nat) (0 : Nat) (0 : Nat) v_11.snd.fst, AV.int IntKind.i64 (0 : Int)]) [] [Blk.row (0 : Nat) v_11.snd.snd]
      have q13x : n13 = 1 := q13
      exact hk.1 (h7.2.2.2.2 (by omega)) _ _ h7.2.2.1

theorem rwhole_ok : Holds Try.prog 37 wholeS := by
  refine fn_sound (env := mkEnv M2) (tab_ok M2_ok) Try.func37 Try.call37 fun args k h => ?_
  match args, h with
  | [.sl 10 [pl]], h => exact ⟨by kernel_rfl, rwholeLoops pl, fun _ _ => none, .cast (by kernel_rfl) (rwhole_vc pl h.1 k h.2)⟩
end Go.Proofs.Ytpkfadgennejnaa

