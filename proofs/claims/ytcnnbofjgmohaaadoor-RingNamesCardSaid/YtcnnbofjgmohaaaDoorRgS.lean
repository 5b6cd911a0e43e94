import Derived.Test.YtcnnbofjgmohaaaDoorRgR
namespace Go.Proofs.YtcnnbofjgmohaaaDoor
open Go Go.Eng Go.Rg Go.Fx Go.Proofs
set_option linter.unusedVariables false
theorem alive_ok : Holds Tryd.prog 16 trueS := by
  refine fn_sound (env := lenv) lenv_ok Tryd.func16 Tryd.call16 fun args k h => ?_
  match args, h with
  | [], h => exact ⟨by kernel_rfl, fun _ _ => none, fun _ _ => none, .cast (by kernel_rfl) h⟩

theorem T6_ok : TabOk Tryd.prog T6 := ⟨alive_ok, T5_ok⟩
set_option maxHeartbeats 2000000 in
theorem parts_vc (s : Int) (s0 : (0 : Int) ≤ s) (s1 : s ≤ (4294967295 : Int)) (i : Int) (i0 : (-9223372036854775808 : Int) ≤ i) (i1 : i ≤ (9223372036854775807 : Int)) (k : AV → List (Option Blk) → List Blk → Prop) (hk : k (AV.bool true) [] []) :
  (
   ∃ (v : Int × Int × Int × Int),
   (s = s) ∧
   (i = i) ∧
   (true = true) ∧
   ((0 : Int) = v.fst) ∧
   (s = v.snd.fst) ∧
   ((0 : Int) = v.snd.snd.fst) ∧
   ((-1 : Int) = v.snd.snd.snd) ∧
   (
    ((0 : Int) ≤ v.fst) ∧
    (v.fst ≤ (4294967295 : Int))) ∧
   (
    ((0 : Int) ≤ v.snd.fst) ∧
    (v.snd.fst ≤ (4294967295 : Int))) ∧
   (
    ((0 : Int) ≤ v.snd.snd.fst) ∧
    (v.snd.snd.fst ≤ (32 : Int))) ∧
   (
    ((-1 : Int) ≤ v.snd.snd.snd) ∧
    (v.snd.snd.snd ≤ (31 : Int))) ∧
   (PInv s.toNat (v.snd.snd.snd + (1 : Int)).toNat v.fst.toNat v.snd.fst.toNat v.snd.snd.fst.toNat)) ∧
  ∀ (v_1 : Int × Int × Int × Int),
  (((0 : Int) ≤ v_1.fst ∧ v_1.fst ≤ (4294967295 : Int)) ∧ ((0 : Int) ≤ v_1.snd.fst ∧ v_1.snd.fst ≤ (4294967295 : Int)) ∧ ((0 : Int) ≤ v_1.snd.snd.fst ∧ v_1.snd.snd.fst ≤ (32 : Int)) ∧ ((-1 : Int) ≤ v_1.snd.snd.snd ∧ v_1.snd.snd.snd ≤ (31 : Int)) ∧ PInv s.toNat (v_1.snd.snd.snd + (1 : Int)).toNat v_1.fst.toNat v_1.snd.fst.toNat v_1.snd.snd.fst.toNat) →
  br (v_1.snd.fst != (0 : Int))
   ((
     ((0 : Int) ≤ v_1.snd.fst) ∧
     (v_1.snd.fst ≤ (4294967295 : Int))) ∧
    ∀ (r_3 : Int),
    (r_3 = leastV v_1.snd.fst) →
    ((-1 : Int) ≤ r_3 ∧ r_3 ≤ (31 : Int)) →
    br (bif decide (r_3 ≤ v_1.snd.snd.snd) then true else decide (r_3 > (31 : Int)))
     ((true = true) ∧
      (k (AV.bool false) [] []))
     ((
       ((0 : Int) ≤ s) ∧
       (s ≤ (4294967295 : Int))) ∧
      (
       ((-9223372036854775808 : Int) ≤ r_3) ∧
       (r_3 ≤ (9223372036854775807 : Int))) ∧
      br (bif false then true else !hasB s r_3)
       ((k (AV.bool false) [] []))
       ((
         ((0 : Int) ≤ v_1.fst) ∧
         (v_1.fst ≤ (4294967295 : Int))) ∧
        (
         ((-9223372036854775808 : Int) ≤ r_3) ∧
         (r_3 ≤ (9223372036854775807 : Int))) ∧
        ∀ (r_6 : Int),
        (r_6 = withV v_1.fst r_3) →
        ((0 : Int) ≤ r_6 ∧ r_6 ≤ (4294967295 : Int)) →
        (
         ((0 : Int) ≤ v_1.snd.fst) ∧
         (v_1.snd.fst ≤ (4294967295 : Int))) ∧
        (
         ((-9223372036854775808 : Int) ≤ r_3) ∧
         (r_3 ≤ (9223372036854775807 : Int))) ∧
        ∀ (r_9 : Int),
        (r_9 = woV v_1.snd.fst r_3) →
        ((0 : Int) ≤ r_9 ∧ r_9 ≤ (4294967295 : Int)) →
        ∀ (n12 : Int),
        (n12 = IntKind.i64.wrap (v_1.snd.snd.fst + (1 : Int))) →
        ((-9223372036854775808 : Int) ≤ n12 ∧ n12 ≤ (9223372036854775807 : Int)) →
        ∃ (v' : Int × Int × Int × Int),
        (s = s) ∧
        (i = i) ∧
        (true = true) ∧
        (r_6 = v'.fst) ∧
        (r_9 = v'.snd.fst) ∧
        (n12 = v'.snd.snd.fst) ∧
        (r_3 = v'.snd.snd.snd) ∧
        (
         (
          ((0 : Int) ≤ v'.fst) ∧
          (v'.fst ≤ (4294967295 : Int))) ∧
         (
          ((0 : Int) ≤ v'.snd.fst) ∧
          (v'.snd.fst ≤ (4294967295 : Int))) ∧
         (
          ((0 : Int) ≤ v'.snd.snd.fst) ∧
          (v'.snd.snd.fst ≤ (32 : Int))) ∧
         (
          ((-1 : Int) ≤ v'.snd.snd.snd) ∧
          (v'.snd.snd.snd ≤ (31 : Int))) ∧
         (PInv s.toNat (v'.snd.snd.snd + (1 : Int)).toNat v'.fst.toNat v'.snd.fst.toNat v'.snd.snd.fst.toNat)) ∧
        (((31 : Int) - v'.snd.snd.snd).toNat < ((31 : Int) - v_1.snd.snd.snd).toNat))))
   (br (v_1.fst != s)
     ((true = true) ∧
      (true = true) ∧
      (k (AV.bool false) [] []))
     ((
       ((0 : Int) ≤ s) ∧
       (s ≤ (4294967295 : Int))) ∧
      ∀ (r_15 : Int),
      (r_15 = cnt (32 : Nat) s) →
      ((0 : Int) ≤ r_15 ∧ r_15 ≤ (32 : Int)) →
      br (bif false then true else v_1.snd.snd.fst != r_15)
       ((true = true) ∧
        (k (AV.bool false) [] []))
       ((
         ((0 : Int) ≤ v_1.snd.fst) ∧
         (v_1.snd.fst ≤ (4294967295 : Int))) ∧
        ∀ (r_18 : Int),
        (r_18 = leastV v_1.snd.fst) →
        ((-1 : Int) ≤ r_18 ∧ r_18 ≤ (31 : Int)) →
        br (bif false then true else r_18 != (-1 : Int))
         ((k (AV.bool false) [] []))
         ((
           ∃ (v : Int),
           (s = s) ∧
           (i = i) ∧
           (true = true) ∧
           ((-1 : Int) = v) ∧
           ((-1 : Int) ≤ v) ∧
           (v ≤ (33 : Int))) ∧
          ∀ (v_21 : Int),
          ((-1 : Int) ≤ v_21 ∧ v_21 ≤ (33 : Int)) →
          br (decide (v_21 < (33 : Int)))
           ((
             ((0 : Int) ≤ s) ∧
             (s ≤ (4294967295 : Int))) ∧
            (
             ((-9223372036854775808 : Int) ≤ i) ∧
             (i ≤ (9223372036854775807 : Int))) ∧
            ∀ (r_23 : Int),
            (r_23 = withV s i) →
            ((0 : Int) ≤ r_23 ∧ r_23 ≤ (4294967295 : Int)) →
            (
             ((0 : Int) ≤ r_23) ∧
             (r_23 ≤ (4294967295 : Int))) ∧
            (
             ((-9223372036854775808 : Int) ≤ v_21) ∧
             (v_21 ≤ (9223372036854775807 : Int))) ∧
            (
             ((0 : Int) ≤ s) ∧
             (s ≤ (4294967295 : Int))) ∧
            (
             ((-9223372036854775808 : Int) ≤ i) ∧
             (i ≤ (9223372036854775807 : Int))) ∧
            ∀ (r_26 : Int),
            (r_26 = woV s i) →
            ((0 : Int) ≤ r_26 ∧ r_26 ≤ (4294967295 : Int)) →
            (
             ((0 : Int) ≤ r_26) ∧
             (r_26 ≤ (4294967295 : Int))) ∧
            (
             ((-9223372036854775808 : Int) ≤ v_21) ∧
             (v_21 ≤ (9223372036854775807 : Int))) ∧
            br (v_21 != i)
             ((
               ((0 : Int) ≤ s) ∧
               (s ≤ (4294967295 : Int))) ∧
              (
               ((-9223372036854775808 : Int) ≤ v_21) ∧
               (v_21 ≤ (9223372036854775807 : Int))) ∧
              br (!hasB r_23 v_21 == hasB s v_21)
               ((
                 (true = true) →
                 (true = true)) ∧
                (k (AV.bool false) [] []))
               ((
                 ((0 : Int) ≤ s) ∧
                 (s ≤ (4294967295 : Int))) ∧
                (
                 ((-9223372036854775808 : Int) ≤ v_21) ∧
                 (v_21 ≤ (9223372036854775807 : Int))) ∧
                br (bif bif true then bif false then true else !hasB r_26 v_21 == hasB s v_21 else false then true else bif v_21 == i then bif hasB r_26 v_21 then true else !hasB r_23 v_21 == bif decide (i ≥ (0 : Int)) then decide (i < (32 : Int)) else false else false)
                 ((k (AV.bool false) [] []))
                 (∀ (n29 : Int),
                  (n29 = IntKind.i64.wrap (v_21 + (1 : Int))) →
                  ((-9223372036854775808 : Int) ≤ n29 ∧ n29 ≤ (9223372036854775807 : Int)) →
                  ∃ (v' : Int),
                  (s = s) ∧
                  (i = i) ∧
                  (true = true) ∧
                  (n29 = v') ∧
                  (
                   ((-1 : Int) ≤ v') ∧
                   (v' ≤ (33 : Int))) ∧
                  (((33 : Int) - v').toNat < ((33 : Int) - v_21).toNat))))
             ((false = false) ∧
              br (bif false then true else bif v_21 == i then bif hasB r_26 v_21 then true else !hasB r_23 v_21 == bif decide (i ≥ (0 : Int)) then decide (i < (32 : Int)) else false else false)
               ((k (AV.bool false) [] []))
               (∀ (n32 : Int),
                (n32 = IntKind.i64.wrap (v_21 + (1 : Int))) →
                ((-9223372036854775808 : Int) ≤ n32 ∧ n32 ≤ (9223372036854775807 : Int)) →
                ∃ (v' : Int),
                (s = s) ∧
                (i = i) ∧
                (true = true) ∧
                (n32 = v') ∧
                (
                 ((-1 : Int) ≤ v') ∧
                 (v' ≤ (33 : Int))) ∧
                (((33 : Int) - v').toNat < ((33 : Int) - v_21).toNat))))
           ((k (AV.bool true) [] [])))))) := by
  refine ⟨?_, ?_⟩
  · -- left
    refine ⟨((0 : Int), s, (0 : Int), (-1 : Int)), ?_⟩
    refine ⟨by first | with_reducible rfl | rfl, ?_⟩ -- s = s
    refine ⟨by first | with_reducible rfl | rfl, ?_⟩ -- i = i
    refine ⟨by first | with_reducible rfl | rfl, ?_⟩ -- true = true
    refine ⟨by first | with_reducible rfl | rfl, ?_⟩ -- (0 : Int) = (0 : Int)
    refine ⟨by first | with_reducible rfl | rfl, ?_⟩ -- s = s
    refine ⟨by first | with_reducible rfl | rfl, ?_⟩ -- (0 : Int) = (0 : Int)
    refine ⟨by first | with_reducible rfl | rfl, ?_⟩ -- (-1 : Int) = (-1 : Int)
    refine ⟨by first | omega | (dsimp only; omega), ?_⟩ -- (0 : Int) ≤ (0 : Int) ∧ (0 : Int) ≤ (4294967295 : Int)
    refine ⟨by exact ⟨by assumption, by assumption⟩, ?_⟩ -- (0 : Int) ≤ s ∧ s ≤ (4294967295 : Int)
    refine ⟨by first | omega | (dsimp only; omega), ?_⟩ -- (0 : Int) ≤ (0 : Int) ∧ (0 : Int) ≤ (32 : Int)
    refine ⟨by first | omega | (dsimp only; omega), ?_⟩ -- (-1 : Int) ≤ (-1 : Int) ∧ (-1 : Int) ≤ (31 : Int)
    -- PInv s.toNat ((-1 : Int) + (1 : Int)).toNat (Int.toNat (0 : Int)) s.toNat (Int.toNat (0 : Int))
    exact PI_start (s := s) ⟨s0, s1⟩
  intro v_1
  intro h1 -- ((0 : Int) ≤ v_1.fst ∧ v_1.fst ≤ (4294967295 : Int)) ∧ ((0 : Int) ≤ v_1.snd.fst ∧ v_1.snd.fst ≤ (4294967295 : Int)) ∧ ((0 : Int) ≤ v_1.snd.snd.fst ∧ v_1.snd.snd.fst ≤ (32 : Int)) ∧ ((-1 : Int) ≤ v_1.snd.snd.snd ∧ v_1.snd.snd.snd ≤ (31 : Int)) ∧ PInv s.toNat (v_1.snd.snd.snd + (1 : Int)).toNat v_1.fst.toNat v_1.snd.fst.toNat v_1.snd.snd.fst.toNat
  refine br_intro (fun c2 => ?_) (fun c2 => ?_) -- v_1.snd.fst != (0 : Int)
  · -- yes
    simp at c2 -- ¬v_1.snd.fst = (0 : Int)
    refine ⟨by first | omega | (dsimp only; omega), ?_⟩ -- (0 : Int) ≤ v_1.snd.fst ∧ v_1.snd.fst ≤ (4294967295 : Int)
    intro r_3
    intro h3 -- r_3 = leastV v_1.snd.fst
    intro ⟨a4, b4⟩ -- (-1 : Int) ≤ r_3 ∧ r_3 ≤ (31 : Int)
    refine br_intro (fun c5 => ?_) (fun c5 => ?_) -- bif decide (r_3 ≤ v_1.snd.snd.snd) then true else decide (r_3 > (31 : Int))
    · -- yes
      simp at c5 -- r_3 ≤ v_1.snd.snd.snd ∨ (31 : Int) < r_3
      refine ⟨by with_reducible rfl, ?_⟩ -- true = true
      -- k (AV.bool false) [] []
      obtain ⟨p1, p2, p3, p4, p5⟩ := PI_step (s := s) (made := v_1.fst) (left := v_1.snd.fst) (n := v_1.snd.snd.fst) (last := v_1.snd.snd.snd) h1.2.2.2.2 ⟨s0, s1⟩ h1.1.1 h1.2.1 h1.2.2.1.1 h1.2.2.2.1.1 c2
      rw [← h3] at p1 p2 p3 p4
      exfalso; omega
    · -- no
      simp at c5 -- v_1.snd.snd.snd < r_3 ∧ r_3 ≤ (31 : Int)
      refine ⟨by exact ⟨by assumption, by assumption⟩, ?_⟩ -- (0 : Int) ≤ s ∧ s ≤ (4294967295 : Int)
      refine ⟨by first | omega | (dsimp only; omega), ?_⟩ -- (-9223372036854775808 : Int) ≤ r_3 ∧ r_3 ≤ (9223372036854775807 : Int)
      refine br_intro (fun c6 => ?_) (fun c6 => ?_) -- bif false then true else !hasB s r_3
      · -- yes
        simp at c6 -- hasB s r_3 = false
        -- k (AV.bool false) [] []
        obtain ⟨p1, p2, p3, p4, p5⟩ := PI_step (s := s) (made := v_1.fst) (left := v_1.snd.fst) (n := v_1.snd.snd.fst) (last := v_1.snd.snd.snd) h1.2.2.2.2 ⟨s0, s1⟩ h1.1.1 h1.2.1 h1.2.2.1.1 h1.2.2.2.1.1 c2
        rw [← h3] at p1 p2 p3 p4
        rw [p3] at c6; cases c6
      · -- no
        simp at c6 -- hasB s r_3 = true
        refine ⟨by first | omega | (dsimp only; omega), ?_⟩ -- (0 : Int) ≤ v_1.fst ∧ v_1.fst ≤ (4294967295 : Int)
        refine ⟨by first | omega | (dsimp only; omega), ?_⟩ -- (-9223372036854775808 : Int) ≤ r_3 ∧ r_3 ≤ (9223372036854775807 : Int)
        intro r_6
        intro h7 -- r_6 = withV v_1.fst r_3
        intro ⟨a8, b8⟩ -- (0 : Int) ≤ r_6 ∧ r_6 ≤ (4294967295 : Int)
        refine ⟨by first | omega | (dsimp only; omega), ?_⟩ -- (0 : Int) ≤ v_1.snd.fst ∧ v_1.snd.fst ≤ (4294967295 : Int)
        refine ⟨by first | omega | (dsimp only; omega), ?_⟩ -- (-9223372036854775808 : Int) ≤ r_3 ∧ r_3 ≤ (9223372036854775807 : Int)
        intro r_9
        intro h9 -- r_9 = woV v_1.snd.fst r_3
        intro ⟨a10, b10⟩ -- (0 : Int) ≤ r_9 ∧ r_9 ≤ (4294967295 : Int)
        intro n12
        intro q12 -- n12 = IntKind.i64.wrap (v_1.snd.snd.fst + (1 : Int))
        rw [IntKind.wrap_i64] at q12
        intro ⟨l12, u12⟩ -- (-9223372036854775808 : Int) ≤ n12 ∧ n12 ≤ (9223372036854775807 : Int)
        refine ⟨(r_6, r_9, n12, r_3), ?_⟩
        refine ⟨by first | with_reducible rfl | rfl, ?_⟩ -- s = s
        refine ⟨by first | with_reducible rfl | rfl, ?_⟩ -- i = i
        refine ⟨by first | with_reducible rfl | rfl, ?_⟩ -- true = true
        refine ⟨by first | with_reducible rfl | rfl, ?_⟩ -- r_6 = r_6
        refine ⟨by first | with_reducible rfl | rfl, ?_⟩ -- r_9 = r_9
        refine ⟨by first | with_reducible rfl | rfl, ?_⟩ -- n12 = n12
        refine ⟨by first | with_reducible rfl | rfl, ?_⟩ -- r_3 = r_3
        refine ⟨?_, ?_⟩
        · -- left
          refine ⟨by exact ⟨by assumption, by assumption⟩, ?_⟩ -- (0 : Int) ≤ r_6 ∧ r_6 ≤ (4294967295 : Int)
          refine ⟨by exact ⟨by assumption, by assumption⟩, ?_⟩ -- (0 : Int) ≤ r_9 ∧ r_9 ≤ (4294967295 : Int)
          refine ⟨?_, ?_⟩
          · -- left
            refine ⟨by show (0 : Int) ≤ n12; omega, ?_⟩ -- (0 : Int) ≤ n12
            -- n12 ≤ (32 : Int)
            obtain ⟨p1, p2, p3, p4, p5⟩ := PI_step (s := s) (made := v_1.fst) (left := v_1.snd.fst) (n := v_1.snd.snd.fst) (last := v_1.snd.snd.snd) h1.2.2.2.2 ⟨s0, s1⟩ h1.1.1 h1.2.1 h1.2.2.1.1 h1.2.2.2.1.1 c2
            rw [← h3] at p1 p2 p3 p4
            show n12 ≤ 32
            omega
          refine ⟨by exact ⟨by assumption, by assumption⟩, ?_⟩ -- (-1 : Int) ≤ r_3 ∧ r_3 ≤ (31 : Int)
          -- PInv s.toNat (r_3 + (1 : Int)).toNat r_6.toNat r_9.toNat n12.toNat
          obtain ⟨p1, p2, p3, p4, p5⟩ := PI_step (s := s) (made := v_1.fst) (left := v_1.snd.fst) (n := v_1.snd.snd.fst) (last := v_1.snd.snd.snd) h1.2.2.2.2 ⟨s0, s1⟩ h1.1.1 h1.2.1 h1.2.2.1.1 h1.2.2.2.1.1 c2
          rw [← h3] at p1 p2 p3 p4
          rw [h7, h9, show n12 = v_1.snd.snd.fst + 1 by omega]; exact p4
        exact by show ((31 : Int) - r_3).toNat < ((31 : Int) - v_1.snd.snd.snd).toNat; omega -- ((31 : Int) - r_3).toNat < ((31 : Int) - v_1.snd.snd.snd).toNat
  · -- no
    simp at c2 -- v_1.snd.fst = (0 : Int)
    refine br_intro (fun c11 => ?_) (fun c11 => ?_) -- v_1.fst != s
    · -- yes
      simp at c11 -- ¬v_1.fst = s
      refine ⟨by with_reducible rfl, ?_⟩ -- true = true
      refine ⟨by with_reducible rfl, ?_⟩ -- true = true
      -- k (AV.bool false) [] []
      have p := h1.2.2.2.2
      rw [c2] at p
      obtain ⟨p1, p2⟩ := PI_end (s := s) (made := v_1.fst) (n := v_1.snd.snd.fst) (last := v_1.snd.snd.snd) p s0 h1.1.1 h1.2.2.1.1
      exact absurd p1 c11
    · -- no
      simp at c11 -- v_1.fst = s
      refine ⟨by exact ⟨by assumption, by assumption⟩, ?_⟩ -- (0 : Int) ≤ s ∧ s ≤ (4294967295 : Int)
      intro r_15
      intro h12 -- r_15 = cnt (32 : Nat) s
      intro ⟨a13, b13⟩ -- (0 : Int) ≤ r_15 ∧ r_15 ≤ (32 : Int)
      refine br_intro (fun c14 => ?_) (fun c14 => ?_) -- bif false then true else v_1.snd.snd.fst != r_15
      · -- yes
        simp at c14 -- ¬v_1.snd.snd.fst = r_15
        refine ⟨by with_reducible rfl, ?_⟩ -- true = true
        -- k (AV.bool false) [] []
        have p := h1.2.2.2.2
        rw [c2] at p
        obtain ⟨p1, p2⟩ := PI_end (s := s) (made := v_1.fst) (n := v_1.snd.snd.fst) (last := v_1.snd.snd.snd) p s0 h1.1.1 h1.2.2.1.1
        exact absurd (p2.trans h12.symm) c14
      · -- no
        simp at c14 -- v_1.snd.snd.fst = r_15
        refine ⟨by first | omega | (dsimp only; omega), ?_⟩ -- (0 : Int) ≤ v_1.snd.fst ∧ v_1.snd.fst ≤ (4294967295 : Int)
        intro r_18
        intro h15 -- r_18 = leastV v_1.snd.fst
        intro ⟨a16, b16⟩ -- (-1 : Int) ≤ r_18 ∧ r_18 ≤ (31 : Int)
        refine br_intro (fun c17 => ?_) (fun c17 => ?_) -- bif false then true else r_18 != (-1 : Int)
        · -- yes
          simp at c17 -- ¬r_18 = (-1 : Int)
          -- k (AV.bool false) [] []
          rw [h15, c2] at c17; exact absurd (by simp [leastV]) c17
        · -- no
          simp at c17 -- r_18 = (-1 : Int)
          refine ⟨?_, ?_⟩
          · -- left
            refine ⟨(-1 : Int), ?_⟩
            refine ⟨by first | with_reducible rfl | rfl, ?_⟩ -- s = s
            refine ⟨by first | with_reducible rfl | rfl, ?_⟩ -- i = i
            refine ⟨by first | with_reducible rfl | rfl, ?_⟩ -- true = true
            refine ⟨by first | with_reducible rfl | rfl, ?_⟩ -- (-1 : Int) = (-1 : Int)
            refine ⟨by show (-1 : Int) ≤ (-1 : Int); omega, ?_⟩ -- (-1 : Int) ≤ (-1 : Int)
            exact by show (-1 : Int) ≤ (33 : Int); omega -- (-1 : Int) ≤ (33 : Int)
          intro v_21
          intro ⟨a18, b18⟩ -- (-1 : Int) ≤ v_21 ∧ v_21 ≤ (33 : Int)
          refine brd (fun c19 => ?_) (fun c19 => ?_) -- decide (v_21 < (33 : Int))
          · -- yes
            refine ⟨by exact ⟨by assumption, by assumption⟩, ?_⟩ -- (0 : Int) ≤ s ∧ s ≤ (4294967295 : Int)
            refine ⟨by exact ⟨by assumption, by assumption⟩, ?_⟩ -- (-9223372036854775808 : Int) ≤ i ∧ i ≤ (9223372036854775807 : Int)
            intro r_23
            intro h20 -- r_23 = withV s i
            intro ⟨a21, b21⟩ -- (0 : Int) ≤ r_23 ∧ r_23 ≤ (4294967295 : Int)
            refine ⟨by exact ⟨by assumption, by assumption⟩, ?_⟩ -- (0 : Int) ≤ r_23 ∧ r_23 ≤ (4294967295 : Int)
            refine ⟨by first | omega | (dsimp only; omega), ?_⟩ -- (-9223372036854775808 : Int) ≤ v_21 ∧ v_21 ≤ (9223372036854775807 : Int)
            refine ⟨by exact ⟨by assumption, by assumption⟩, ?_⟩ -- (0 : Int) ≤ s ∧ s ≤ (4294967295 : Int)
            refine ⟨by exact ⟨by assumption, by assumption⟩, ?_⟩ -- (-9223372036854775808 : Int) ≤ i ∧ i ≤ (9223372036854775807 : Int)
            intro r_26
            intro h22 -- r_26 = woV s i
            intro ⟨a23, b23⟩ -- (0 : Int) ≤ r_26 ∧ r_26 ≤ (4294967295 : Int)
            refine ⟨by exact ⟨by assumption, by assumption⟩, ?_⟩ -- (0 : Int) ≤ r_26 ∧ r_26 ≤ (4294967295 : Int)
            refine ⟨by first | omega | (dsimp only; omega), ?_⟩ -- (-9223372036854775808 : Int) ≤ v_21 ∧ v_21 ≤ (9223372036854775807 : Int)
            refine br_intro (fun c24 => ?_) (fun c24 => ?_) -- v_21 != i
            · -- yes
              simp at c24 -- ¬v_21 = i
              refine ⟨by exact ⟨by assumption, by assumption⟩, ?_⟩ -- (0 : Int) ≤ s ∧ s ≤ (4294967295 : Int)
              refine ⟨by first | omega | (dsimp only; omega), ?_⟩ -- (-9223372036854775808 : Int) ≤ v_21 ∧ v_21 ≤ (9223372036854775807 : Int)
              refine br_intro (fun c25 => ?_) (fun c25 => ?_) -- !hasB r_23 v_21 == hasB s v_21
              · -- yes
                simp at c25 -- ¬hasB r_23 v_21 = hasB s v_21
                refine ⟨?_, ?_⟩
                · -- left
                  intro h26 -- true = true
                  simp at h26 -- True
                  exact by with_reducible rfl -- true = true
                -- k (AV.bool false) [] []
                rw [h20, has_with, if_neg c24] at c25; exact absurd rfl c25
              · -- no
                simp at c25 -- hasB r_23 v_21 = hasB s v_21
                refine ⟨by exact ⟨by assumption, by assumption⟩, ?_⟩ -- (0 : Int) ≤ s ∧ s ≤ (4294967295 : Int)
                refine ⟨by first | omega | (dsimp only; omega), ?_⟩ -- (-9223372036854775808 : Int) ≤ v_21 ∧ v_21 ≤ (9223372036854775807 : Int)
                refine br_intro (fun c27 => ?_) (fun c27 => ?_) -- bif bif true then bif false then true else !hasB r_26 v_21 == hasB s v_21 else false then true else bif v_21 == i then bif hasB r_26 v_21 then true else !hasB r_23 v_21 == bif decide (i ≥ (0 : Int)) then decide (i < (32 : Int)) else false else false
                · -- yes
                  simp at c27 -- ¬hasB r_26 v_21 = hasB s v_21 ∨ v_21 = i ∧ (hasB r_26 v_21 = true ∨ ¬hasB r_23 v_21 = (decide ((0 : Int) ≤ i) && decide (i < (32 : Int))))
                  -- k (AV.bool false) [] []
                  rw [h22, has_wo, if_neg c24] at c27; rcases c27 with h | h
                  · exact absurd rfl h
                  · exact absurd h.1 c24
                · -- no
                  simp at c27 -- hasB r_26 v_21 = hasB s v_21 ∧ (v_21 = i → hasB r_26 v_21 = false ∧ hasB r_23 v_21 = (decide ((0 : Int) ≤ i) && decide (i < (32 : Int))))
                  intro n29
                  intro q29 -- n29 = IntKind.i64.wrap (v_21 + (1 : Int))
                  rw [IntKind.wrap_i64] at q29
                  intro ⟨l29, u29⟩ -- (-9223372036854775808 : Int) ≤ n29 ∧ n29 ≤ (9223372036854775807 : Int)
                  refine ⟨n29, ?_⟩
                  refine ⟨by first | with_reducible rfl | rfl, ?_⟩ -- s = s
                  refine ⟨by first | with_reducible rfl | rfl, ?_⟩ -- i = i
                  refine ⟨by first | with_reducible rfl | rfl, ?_⟩ -- true = true
                  refine ⟨by first | with_reducible rfl | rfl, ?_⟩ -- n29 = n29
                  refine ⟨by first | omega | (dsimp only; omega), ?_⟩ -- (-1 : Int) ≤ n29 ∧ n29 ≤ (33 : Int)
                  exact by show ((33 : Int) - n29).toNat < ((33 : Int) - v_21).toNat; omega -- ((33 : Int) - n29).toNat < ((33 : Int) - v_21).toNat
            · -- no
              simp at c24 -- v_21 = i
              refine ⟨by with_reducible rfl, ?_⟩ -- false = false
              refine br_intro (fun c28 => ?_) (fun c28 => ?_) -- bif false then true else bif v_21 == i then bif hasB r_26 v_21 then true else !hasB r_23 v_21 == bif decide (i ≥ (0 : Int)) then decide (i < (32 : Int)) else false else false
              · -- yes
                simp at c28 -- v_21 = i ∧ (hasB r_26 v_21 = true ∨ ¬hasB r_23 v_21 = (decide ((0 : Int) ≤ i) && decide (i < (32 : Int))))
                -- k (AV.bool false) [] []
                rw [h22, h20, has_wo, has_with, if_pos c28.1, if_pos c28.1] at c28
                rcases c28.2 with h | h
                · cases h
                · exfalso; apply h
                  by_cases h1 : 0 ≤ i <;> by_cases h2 : i < 32
                  all_goals simp [h1, h2]
                  all_goals omega
              · -- no
                simp at c28 -- v_21 = i → hasB r_26 v_21 = false ∧ hasB r_23 v_21 = (decide ((0 : Int) ≤ i) && decide (i < (32 : Int)))
                intro n32
                intro q32 -- n32 = IntKind.i64.wrap (v_21 + (1 : Int))
                rw [IntKind.wrap_i64] at q32
                intro ⟨l32, u32⟩ -- (-9223372036854775808 : Int) ≤ n32 ∧ n32 ≤ (9223372036854775807 : Int)
                refine ⟨n32, ?_⟩
                refine ⟨by first | with_reducible rfl | rfl, ?_⟩ -- s = s
                refine ⟨by first | with_reducible rfl | rfl, ?_⟩ -- i = i
                refine ⟨by first | with_reducible rfl | rfl, ?_⟩ -- true = true
                refine ⟨by first | with_reducible rfl | rfl, ?_⟩ -- n32 = n32
                refine ⟨by first | omega | (dsimp only; omega), ?_⟩ -- (-1 : Int) ≤ n32 ∧ n32 ≤ (33 : Int)
                exact by show ((33 : Int) - n32).toNat < ((33 : Int) - v_21).toNat; omega -- ((33 : Int) - n32).toNat < ((33 : Int) - v_21).toNat
          · -- no
            -- k (AV.bool true) [] []
            exact hk

theorem parts_ok : Holds Tryd.prog 4 bothS := by
  refine fn_sound (env := mkEnv T6) (tab_ok T6_ok) Tryd.func4 Tryd.call4 fun args k h => ?_
  match args, h with
  | [.int .u32 s, .int .i64 i], h => exact ⟨by kernel_rfl, partsLoops s i, fun _ _ => none, .cast (by kernel_rfl) (parts_vc s h.1.1 h.1.2 i h.2.1.1 h.2.1.2 k h.2.2)⟩
end Go.Proofs.YtcnnbofjgmohaaaDoor

