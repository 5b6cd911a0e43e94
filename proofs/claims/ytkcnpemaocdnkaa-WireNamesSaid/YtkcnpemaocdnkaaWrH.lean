import Derived.Test.YtkcnpemaocdnkaaWrG
namespace Go.Proofs.Ytkcnpemaocdnkaa
open Go Go.Eng Go.Wr Go.Proofs
set_option linter.unusedVariables false
set_option maxHeartbeats 2000000 in
theorem run_vc (l : List (List UInt8)) (w : List UInt8) (a : List Int) (k : AV → List (Option Blk) → List Blk → Prop) (hk : (∀ (e : Int), e = rE l w a → e ≠ (0 : Int) → k (AV.tup [AV.nilsl, AV.int IntKind.i64 e]) [] []) ∧ (rE l w a = (0 : Int) → ∀ (ys : List (List UInt8)), ys = outs l w a l.length → k (AV.tup [AV.row (6 : Nat) (0 : Nat) (0 : Nat) l.length, AV.int IntKind.i64 (0 : Int)]) [] [Blk.row (6 : Nat) ys])) :
  ∀ (n1 : Int),
  (n1 = (↑l.length : Int)) →
  ((-9223372036854775808 : Int) ≤ n1 ∧ n1 ≤ (9223372036854775807 : Int)) →
  ∀ (n4 : Int),
  (n4 = (↑w.length : Int)) →
  ∀ (n6 : Int),
  (n6 = (↑l.length : Int)) →
  ∀ (n8 : Int),
  (n8 = (↑a.length : Int)) →
  ∀ (n10 : Int),
  (n10 = (↑l.length : Int)) →
  br (bif bif decide (n1 > (4096 : Int)) then true else n4 != n6 then true else n8 != n10)
   ((k (AV.tup [AV.nilsl, AV.int IntKind.i64 (4 : Int)]) [] []))
   (∀ (n12 : Int),
    (n12 = (↑l.length : Int)) →
    ((-9223372036854775808 : Int) ≤ n12 ∧ n12 ≤ (9223372036854775807 : Int)) →
    (
     ((0 : Int) ≤ n12) ∧
     (n12 ≤ n12) ∧
     (n12 * (↑(24 : Nat) : Int) ≤ (140737488355328 : Int))) ∧
    ∀ (n15 : Int),
    (n15 = (↑l.length : Int)) →
    ((-9223372036854775808 : Int) ≤ n15 ∧ n15 ≤ (9223372036854775807 : Int)) →
    (
     ∃ (v : Int × List UInt8 × List (List UInt8)),
     (l = l) ∧
     (w = w) ∧
     (a = a) ∧
     ((0 : Nat) = (0 : Nat)) ∧
     (n12.toNat = l.length) ∧
     (v.snd.fst = []) ∧
     (n15 = (↑l.length : Int)) ∧
     ((0 : Int) = v.fst) ∧
     (List.replicate n12.toNat [] = v.snd.snd) ∧
     (
      ((0 : Int) ≤ v.fst) ∧
      (v.fst ≤ (↑l.length : Int))) ∧
     (v.snd.fst = holdN l w v.fst.toNat) ∧
     (v.snd.snd = rows l w a v.fst.toNat) ∧
     (firstE l w a v.fst.toNat = (0 : Int)) ∧
     (l.length ≤ (4096 : Nat)) ∧
     (w.length = l.length) ∧
     (a.length = l.length)) ∧
    ∀ (v_18 : Int × List UInt8 × List (List UInt8)),
    (((0 : Int) ≤ v_18.fst ∧ v_18.fst ≤ (↑l.length : Int)) ∧ v_18.snd.fst = holdN l w v_18.fst.toNat ∧ v_18.snd.snd = rows l w a v_18.fst.toNat ∧ firstE l w a v_18.fst.toNat = (0 : Int) ∧ l.length ≤ (4096 : Nat) ∧ w.length = l.length ∧ a.length = l.length) →
    br (decide (v_18.fst < (↑l.length : Int)))
     (((0 : Int) ≤ v_18.fst) ∧
      (v_18.fst < (↑l.length : Int)) ∧
      ((0 : Int) ≤ v_18.fst) ∧
      (v_18.fst < (↑w.length : Int)) ∧
      ∀ (n20 : Int),
      (n20 = (↑(w.getD v_18.fst.toNat (0 : UInt8)).toNat : Int)) →
      ((0 : Int) ≤ n20 ∧ n20 ≤ (255 : Int)) →
      ((0 : Int) ≤ v_18.fst) ∧
      (v_18.fst < (↑a.length : Int)) ∧
      ∀ (n23 : Int),
      (n23 = a.getD v_18.fst.toNat (0 : Int)) →
      ((-9223372036854775808 : Int) ≤ n23 ∧ n23 ≤ (9223372036854775807 : Int)) →
      (
       ((0 : Int) ≤ n20) ∧
       (n20 ≤ (255 : Int))) ∧
      (
       ((-9223372036854775808 : Int) ≤ n23) ∧
       (n23 ≤ (9223372036854775807 : Int))) ∧
      ∀ (e_26 : Int),
      ∀ (ys_27 : List UInt8),
      ∀ (us_28 : List UInt8),
      (e_26 = wE v_18.snd.fst.length (l.getD v_18.fst.toNat (dflt (6 : Nat))).length n20 n23) →
      ((e_26 = (0 : Int)) →
       (ys_27 = v_18.snd.fst ++ wOut (l.getD v_18.fst.toNat (dflt (6 : Nat))) n20 n23)) →
      ((e_26 = (0 : Int)) →
       (us_28 = if n20 = (3 : Int) then l.getD v_18.fst.toNat (dflt (6 : Nat)) else [])) →
      ((0 : Int) ≤ v_18.fst) ∧
      (v_18.fst < (↑l.length : Int)) ∧
      ((0 : Nat) + v_18.fst.toNat < v_18.snd.snd.length) ∧
      ∀ (z32 : List (List UInt8)),
      (z32 = v_18.snd.snd.set ((0 : Nat) + v_18.fst.toNat) ys_27) →
      br (e_26 != (0 : Int))
       ((k (AV.tup [AV.nilsl, AV.int IntKind.i64 e_26]) [] []))
       (∀ (n34 : Int),
        (n34 = IntKind.i64.wrap (v_18.fst + (1 : Int))) →
        ((-9223372036854775808 : Int) ≤ n34 ∧ n34 ≤ (9223372036854775807 : Int)) →
        ∃ (v' : Int × List UInt8 × List (List UInt8)),
        (l = l) ∧
        (w = w) ∧
        (a = a) ∧
        ((0 : Nat) = (0 : Nat)) ∧
        (l.length = l.length) ∧
        (us_28 = v'.snd.fst) ∧
        ((↑l.length : Int) = (↑l.length : Int)) ∧
        (n34 = v'.fst) ∧
        (z32 = v'.snd.snd) ∧
        (
         (
          ((0 : Int) ≤ v'.fst) ∧
          (v'.fst ≤ (↑l.length : Int))) ∧
         (v'.snd.fst = holdN l w v'.fst.toNat) ∧
         (v'.snd.snd = rows l w a v'.fst.toNat) ∧
         (firstE l w a v'.fst.toNat = (0 : Int)) ∧
         (l.length ≤ (4096 : Nat)) ∧
         (w.length = l.length) ∧
         (a.length = l.length)) ∧
        (((↑l.length : Int) - v'.fst).toNat < ((↑l.length : Int) - v_18.fst).toNat)))
     ((k (AV.tup [AV.row (6 : Nat) (0 : Nat) (0 : Nat) l.length, AV.int IntKind.i64 (0 : Int)]) [] [Blk.row (6 : Nat) v_18.snd.snd]))) := by
  intro n1
  intro q1 -- n1 = (↑l.length : Int)
  intro ⟨l1, u1⟩ -- (-9223372036854775808 : Int) ≤ n1 ∧ n1 ≤ (9223372036854775807 : Int)
  intro n4
  intro q4 -- n4 = (↑w.length : Int)
  intro n6
  intro q6 -- n6 = (↑l.length : Int)
  intro n8
  intro q8 -- n8 = (↑a.length : Int)
  intro n10
  intro q10 -- n10 = (↑l.length : Int)
  refine br_intro (fun c1 => ?_) (fun c1 => ?_) -- bif bif decide (n1 > (4096 : Int)) then true else n4 != n6 then true else n8 != n10
  · -- yes
    simp at c1 -- ((4096 : Int) < n1 ∨ ¬n4 = n6) ∨ ¬n8 = n10
    -- k (AV.tup [AV.nilsl, AV.int IntKind.i64 (4 : Int)]) [] []
    exact hk.1 4 (by unfold rE; rw [if_pos (by omega)]) (by decide)
  · -- no
    simp at c1 -- (n1 ≤ (4096 : Int) ∧ n4 = n6) ∧ n8 = n10
    intro n12
    intro q12 -- n12 = (↑l.length : Int)
    intro ⟨l12, u12⟩ -- (-9223372036854775808 : Int) ≤ n12 ∧ n12 ≤ (9223372036854775807 : Int)
    refine ⟨?_, ?_⟩
    · -- left
      refine ⟨by first | omega | (dsimp only; omega), ?_⟩ -- (0 : Int) ≤ n12
      refine ⟨by first | omega | (dsimp only; omega), ?_⟩ -- n12 ≤ n12
      exact by omega -- n12 * (↑(24 : Nat) : Int) ≤ (140737488355328 : Int)
    intro n15
    intro q15 -- n15 = (↑l.length : Int)
    intro ⟨l15, u15⟩ -- (-9223372036854775808 : Int) ≤ n15 ∧ n15 ≤ (9223372036854775807 : Int)
    refine ⟨?_, ?_⟩
    · -- left
      refine ⟨((0 : Int), [], List.replicate n12.toNat []), ?_⟩
      refine ⟨by first | with_reducible rfl | rfl, ?_⟩ -- l = l
      refine ⟨by first | with_reducible rfl | rfl, ?_⟩ -- w = w
      refine ⟨by first | with_reducible rfl | rfl, ?_⟩ -- a = a
      refine ⟨by first | with_reducible rfl | rfl, ?_⟩ -- (0 : Nat) = (0 : Nat)
      refine ⟨by show n12.toNat = l.length; omega, ?_⟩ -- n12.toNat = l.length
      refine ⟨by first | with_reducible rfl | rfl, ?_⟩ -- [] = []
      refine ⟨by show n15 = (↑l.length : Int); assumption, ?_⟩ -- n15 = (↑l.length : Int)
      refine ⟨by first | with_reducible rfl | rfl, ?_⟩ -- (0 : Int) = (0 : Int)
      refine ⟨by first | with_reducible rfl | rfl, ?_⟩ -- List.replicate n12.toNat [] = List.replicate n12.toNat []
      refine ⟨by first | omega | (dsimp only; omega), ?_⟩ -- (0 : Int) ≤ (0 : Int) ∧ (0 : Int) ≤ (↑l.length : Int)
      refine ⟨by rfl, ?_⟩ -- [] = holdN l w (Int.toNat (0 : Int))
      have h2 : List.replicate n12.toNat [] = rows l w a (Int.toNat (0 : Int)) := by
        rw [show n12.toNat = l.length by omega]; exact (rows_zero l w a).symm
      refine ⟨h2, ?_⟩
      refine ⟨by rfl, ?_⟩ -- firstE l w a (Int.toNat (0 : Int)) = (0 : Int)
      refine ⟨by show l.length ≤ (4096 : Nat); omega, ?_⟩ -- l.length ≤ (4096 : Nat)
      refine ⟨by show w.length = l.length; omega, ?_⟩ -- w.length = l.length
      exact by show a.length = l.length; omega -- a.length = l.length
    intro v_18
    intro h3 -- ((0 : Int) ≤ v_18.fst ∧ v_18.fst ≤ (↑l.length : Int)) ∧ v_18.snd.fst = holdN l w v_18.fst.toNat ∧ v_18.snd.snd = rows l w a v_18.fst.toNat ∧ firstE l w a v_18.fst.toNat = (0 : Int) ∧ l.length ≤ (4096 : Nat) ∧ w.length = l.length ∧ a.length = l.length
    have hL : v_18.snd.snd.length = l.length := by rw [h3.2.2.1]; exact rows_length (by omega)
    refine brd (fun c4 => ?_) (fun c4 => ?_) -- decide (v_18.fst < (↑l.length : Int))
    · -- yes
      refine ⟨by first | omega | (dsimp only; omega), ?_⟩ -- (0 : Int) ≤ v_18.fst
      refine ⟨by assumption, ?_⟩ -- v_18.fst < (↑l.length : Int)
      refine ⟨by first | omega | (dsimp only; omega), ?_⟩ -- (0 : Int) ≤ v_18.fst
      refine ⟨by first | omega | (dsimp only; omega), ?_⟩ -- v_18.fst < (↑w.length : Int)
      intro n20
      intro q20 -- n20 = (↑(w.getD v_18.fst.toNat (0 : UInt8)).toNat : Int)
      intro ⟨l20, u20⟩ -- (0 : Int) ≤ n20 ∧ n20 ≤ (255 : Int)
      refine ⟨by first | omega | (dsimp only; omega), ?_⟩ -- (0 : Int) ≤ v_18.fst
      refine ⟨by first | omega | (dsimp only; omega), ?_⟩ -- v_18.fst < (↑a.length : Int)
      intro n23
      intro q23 -- n23 = a.getD v_18.fst.toNat (0 : Int)
      intro ⟨l23, u23⟩ -- (-9223372036854775808 : Int) ≤ n23 ∧ n23 ≤ (9223372036854775807 : Int)
      refine ⟨by exact ⟨by assumption, by assumption⟩, ?_⟩ -- (0 : Int) ≤ n20 ∧ n20 ≤ (255 : Int)
      refine ⟨by exact ⟨by assumption, by assumption⟩, ?_⟩ -- (-9223372036854775808 : Int) ≤ n23 ∧ n23 ≤ (9223372036854775807 : Int)
      intro e_26
      intro ys_27
      intro us_28
      intro h5 -- e_26 = wE v_18.snd.fst.length (l.getD v_18.fst.toNat (dflt (6 : Nat))).length n20 n23
      intro h6 -- e_26 = (0 : Int) → ys_27 = v_18.snd.fst ++ wOut (l.getD v_18.fst.toNat (dflt (6 : Nat))) n20 n23
      intro h7 -- e_26 = (0 : Int) → us_28 = if n20 = (3 : Int) then l.getD v_18.fst.toNat (dflt (6 : Nat)) else []
      refine ⟨by first | omega | (dsimp only; omega), ?_⟩ -- (0 : Int) ≤ v_18.fst
      refine ⟨by assumption, ?_⟩ -- v_18.fst < (↑l.length : Int)
      refine ⟨by first | omega | (dsimp only; omega), ?_⟩ -- (0 : Nat) + v_18.fst.toNat < v_18.snd.snd.length
      intro z32
      intro qz32 -- z32 = v_18.snd.snd.set ((0 : Nat) + v_18.fst.toNat) ys_27
      refine br_intro (fun c8 => ?_) (fun c8 => ?_) -- e_26 != (0 : Int)
      · -- yes
        simp at c8 -- ¬e_26 = (0 : Int)
        -- k (AV.tup [AV.nilsl, AV.int IntKind.i64 e_26]) [] []
        have E : e_26 = errN l w a v_18.fst.toNat := by
          unfold errN; rw [← h3.2.1, ← q20, ← q23]; exact h5
        exact hk.1 e_26 (rE_run (k := v_18.fst.toNat) (by omega) h3.2.2.2.2.2.1 h3.2.2.2.2.2.2 h3.2.2.2.1 E c8 (by omega)) c8
      · -- no
        simp at c8 -- e_26 = (0 : Int)
        intro n34
        intro q34 -- n34 = IntKind.i64.wrap (v_18.fst + (1 : Int))
        rw [IntKind.wrap_i64] at q34
        intro ⟨l34, u34⟩ -- (-9223372036854775808 : Int) ≤ n34 ∧ n34 ≤ (9223372036854775807 : Int)
        refine ⟨(n34, us_28, z32), ?_⟩
        refine ⟨by first | with_reducible rfl | rfl, ?_⟩ -- l = l
        refine ⟨by first | with_reducible rfl | rfl, ?_⟩ -- w = w
        refine ⟨by first | with_reducible rfl | rfl, ?_⟩ -- a = a
        refine ⟨by first | with_reducible rfl | rfl, ?_⟩ -- (0 : Nat) = (0 : Nat)
        refine ⟨by first | with_reducible rfl | rfl, ?_⟩ -- l.length = l.length
        refine ⟨by first | with_reducible rfl | rfl, ?_⟩ -- us_28 = us_28
        refine ⟨by first | with_reducible rfl | rfl, ?_⟩ -- (↑l.length : Int) = (↑l.length : Int)
        refine ⟨by first | with_reducible rfl | rfl, ?_⟩ -- n34 = n34
        refine ⟨by first | with_reducible rfl | rfl, ?_⟩ -- z32 = z32
        refine ⟨?_, ?_⟩
        · -- left
          refine ⟨by first | omega | (dsimp only; omega), ?_⟩ -- (0 : Int) ≤ n34 ∧ n34 ≤ (↑l.length : Int)
          have h9 : us_28 = holdN l w n34.toNat := by
            rw [show n34.toNat = v_18.fst.toNat + 1 by omega, h7 (by assumption), holdN]
            by_cases c : n20 = 3
            · rw [if_pos c, if_pos (by omega)]; rfl
            · rw [if_neg c, if_neg (by omega)]
          refine ⟨h9, ?_⟩
          have h10 : z32 = rows l w a n34.toNat := by
            rw [qz32, show n34.toNat = v_18.fst.toNat + 1 by omega, Nat.zero_add, h3.2.2.1, h6 (by assumption), ← rows_set (by omega)]
            congr 1
            unfold outN
            rw [← h3.2.1, ← q20, ← q23]
            rfl
          refine ⟨h10, ?_⟩
          have h11 : firstE l w a n34.toNat = (0 : Int) := by
            have E : e_26 = errN l w a v_18.fst.toNat := by
              unfold errN; rw [← h3.2.1, ← q20, ← q23]; exact h5
            rw [show n34.toNat = v_18.fst.toNat + 1 by omega, firstE, if_pos h3.2.2.2.1]; exact E.symm.trans c8
          refine ⟨h11, ?_⟩
          refine ⟨by show l.length ≤ (4096 : Nat); omega, ?_⟩ -- l.length ≤ (4096 : Nat)
          refine ⟨by show w.length = l.length; omega, ?_⟩ -- w.length = l.length
          exact by show a.length = l.length; omega -- a.length = l.length
        exact by show ((↑l.length : Int) - n34).toNat < ((↑l.length : Int) - v_18.fst).toNat; omega -- ((↑l.length : Int) - n34).toNat < ((↑l.length : Int) - v_18.fst).toNat
    · -- no
      -- k (AV.tup [AV.row (6 : Nat) (0 : Nat) (0 : Nat) l.length, AV.int IntKind.i64 (0 : Int)]) [] [Blk.row (6 : Nat) v_18.snd.snd]
      exact hk.2 (rE_zero (by omega) h3.2.2.2.2.2.1 h3.2.2.2.2.2.2 (by have := h3.2.2.2.1; rwa [show v_18.fst.toNat = l.length by omega] at this)) _ (by rw [h3.2.2.1, show v_18.fst.toNat = l.length by omega, rows_all])

theorem run_ok : Holds Try.prog 10 runS := by
  refine fn_sound (env := mkEnv T3) (tab_ok T3_ok) Try.func10 Try.call10 fun args k h => ?_
  match args, h with
  | [.sl 6 l, .sl 0 w, .sl 1 a], h => exact ⟨by kernel_rfl, runLoops l w a, fun _ _ => none, .cast (by kernel_rfl) (run_vc l w a k h)⟩
set_option maxHeartbeats 2000000 in
theorem rrun_vc (l : List (List UInt8)) (w : List UInt8) (a : List Int) (k : AV → List (Option Blk) → List Blk → Prop) (hk : (∀ (e : Int), e = rE l w a → e ≠ (0 : Int) → k (AV.tup [AV.nilsl, AV.int IntKind.i64 e]) [] []) ∧ (rE l w a = (0 : Int) → ∀ (ys : List (List UInt8)), ys = outs l w a l.length → k (AV.tup [AV.row (6 : Nat) (0 : Nat) (0 : Nat) l.length, AV.int IntKind.i64 (0 : Int)]) [] [Blk.row (6 : Nat) ys])) :
  ∀ (n1 : Int),
  (n1 = (↑l.length : Int)) →
  ((-9223372036854775808 : Int) ≤ n1 ∧ n1 ≤ (9223372036854775807 : Int)) →
  ∀ (n4 : Int),
  (n4 = (↑w.length : Int)) →
  ∀ (n6 : Int),
  (n6 = (↑l.length : Int)) →
  ∀ (n8 : Int),
  (n8 = (↑a.length : Int)) →
  ∀ (n10 : Int),
  (n10 = (↑l.length : Int)) →
  br (bif bif decide (n1 > (4096 : Int)) then true else n4 != n6 then true else n8 != n10)
   ((k (AV.tup [AV.nilsl, AV.int IntKind.i64 (4 : Int)]) [] []))
   ((
     ∃ (v : Int × List UInt8 × List (List UInt8)),
     (l = l) ∧
     (w = w) ∧
     (a = a) ∧
     ((0 : Nat) = (0 : Nat)) ∧
     ((0 : Nat) = v.snd.snd.length) ∧
     (v.snd.fst = []) ∧
     ((0 : Int) = v.fst) ∧
     ([] = v.snd.snd) ∧
     (
      ((0 : Int) ≤ v.fst) ∧
      (v.fst ≤ (↑l.length : Int))) ∧
     (v.snd.fst = holdN l w v.fst.toNat) ∧
     (v.snd.snd = outs l w a v.fst.toNat) ∧
     ((↑v.snd.snd.length : Int) = v.fst) ∧
     (firstE l w a v.fst.toNat = (0 : Int)) ∧
     (l.length ≤ (4096 : Nat)) ∧
     (w.length = l.length) ∧
     (a.length = l.length)) ∧
    ∀ (v_12 : Int × List UInt8 × List (List UInt8)),
    (((0 : Int) ≤ v_12.fst ∧ v_12.fst ≤ (↑l.length : Int)) ∧ v_12.snd.fst = holdN l w v_12.fst.toNat ∧ v_12.snd.snd = outs l w a v_12.fst.toNat ∧ (↑v_12.snd.snd.length : Int) = v_12.fst ∧ firstE l w a v_12.fst.toNat = (0 : Int) ∧ l.length ≤ (4096 : Nat) ∧ w.length = l.length ∧ a.length = l.length) →
    ∀ (n14 : Int),
    (n14 = (↑l.length : Int)) →
    ((-9223372036854775808 : Int) ≤ n14 ∧ n14 ≤ (9223372036854775807 : Int)) →
    br (decide (v_12.fst < n14))
     (((0 : Int) ≤ v_12.fst) ∧
      (v_12.fst < (↑l.length : Int)) ∧
      ((0 : Int) ≤ v_12.fst) ∧
      (v_12.fst < (↑w.length : Int)) ∧
      ∀ (n17 : Int),
      (n17 = (↑(w.getD v_12.fst.toNat (0 : UInt8)).toNat : Int)) →
      ((0 : Int) ≤ n17 ∧ n17 ≤ (255 : Int)) →
      ((0 : Int) ≤ v_12.fst) ∧
      (v_12.fst < (↑a.length : Int)) ∧
      ∀ (n20 : Int),
      (n20 = a.getD v_12.fst.toNat (0 : Int)) →
      ((-9223372036854775808 : Int) ≤ n20 ∧ n20 ≤ (9223372036854775807 : Int)) →
      (
       ((0 : Int) ≤ n17) ∧
       (n17 ≤ (255 : Int))) ∧
      (
       ((-9223372036854775808 : Int) ≤ n20) ∧
       (n20 ≤ (9223372036854775807 : Int))) ∧
      ∀ (e_23 : Int),
      ∀ (ys_24 : List UInt8),
      ∀ (us_25 : List UInt8),
      (e_23 = wE v_12.snd.fst.length (l.getD v_12.fst.toNat (dflt (6 : Nat))).length n17 n20) →
      ((e_23 = (0 : Int)) →
       (ys_24 = v_12.snd.fst ++ wOut (l.getD v_12.fst.toNat (dflt (6 : Nat))) n17 n20)) →
      ((e_23 = (0 : Int)) →
       (us_25 = if n17 = (3 : Int) then l.getD v_12.fst.toNat (dflt (6 : Nat)) else [])) →
      br (e_23 != (0 : Int))
       ((k (AV.tup [AV.nilsl, AV.int IntKind.i64 e_23]) [] []))
       (((v_12.snd.snd.length + (1 : Nat)) * (24 : Nat) ≤ (140737488355328 : Nat)) ∧
        ∀ (z29 : List (List UInt8)),
        (z29 = List.take v_12.snd.snd.length v_12.snd.snd ++ List.take (1 : Nat) (List.drop (0 : Nat) [ys_24])) →
        ∀ (n31 : Int),
        (n31 = IntKind.i64.wrap (v_12.fst + (1 : Int))) →
        ((-9223372036854775808 : Int) ≤ n31 ∧ n31 ≤ (9223372036854775807 : Int)) →
        ∃ (v' : Int × List UInt8 × List (List UInt8)),
        (l = l) ∧
        (w = w) ∧
        (a = a) ∧
        ((0 : Nat) = (0 : Nat)) ∧
        (v_12.snd.snd.length + (1 : Nat) = v'.snd.snd.length) ∧
        (us_25 = v'.snd.fst) ∧
        (n31 = v'.fst) ∧
        (z29 = v'.snd.snd) ∧
        (
         (
          ((0 : Int) ≤ v'.fst) ∧
          (v'.fst ≤ (↑l.length : Int))) ∧
         (v'.snd.fst = holdN l w v'.fst.toNat) ∧
         (v'.snd.snd = outs l w a v'.fst.toNat) ∧
         ((↑v'.snd.snd.length : Int) = v'.fst) ∧
         (firstE l w a v'.fst.toNat = (0 : Int)) ∧
         (l.length ≤ (4096 : Nat)) ∧
         (w.length = l.length) ∧
         (a.length = l.length)) ∧
        (((↑l.length : Int) - v'.fst).toNat < ((↑l.length : Int) - v_12.fst).toNat)))
     ((k (AV.tup [AV.row (6 : Nat) (0 : Nat) (0 : Nat) v_12.snd.snd.length, AV.int IntKind.i64 (0 : Int)]) [] [Blk.row (6 : Nat) v_12.snd.snd]))) := by
  intro n1
  intro q1 -- n1 = (↑l.length : Int)
  intro ⟨l1, u1⟩ -- (-9223372036854775808 : Int) ≤ n1 ∧ n1 ≤ (9223372036854775807 : Int)
  intro n4
  intro q4 -- n4 = (↑w.length : Int)
  intro n6
  intro q6 -- n6 = (↑l.length : Int)
  intro n8
  intro q8 -- n8 = (↑a.length : Int)
  intro n10
  intro q10 -- n10 = (↑l.length : Int)
  refine br_intro (fun c1 => ?_) (fun c1 => ?_) -- bif bif decide (n1 > (4096 : Int)) then true else n4 != n6 then true else n8 != n10
  · -- yes
    simp at c1 -- ((4096 : Int) < n1 ∨ ¬n4 = n6) ∨ ¬n8 = n10
    -- k (AV.tup [AV.nilsl, AV.int IntKind.i64 (4 : Int)]) [] []
    exact hk.1 4 (by unfold rE; rw [if_pos (by omega)]) (by decide)
  · -- no
    simp at c1 -- (n1 ≤ (4096 : Int) ∧ n4 = n6) ∧ n8 = n10
    refine ⟨?_, ?_⟩
    · -- left
      refine ⟨((0 : Int), [], []), ?_⟩
      refine ⟨by first | with_reducible rfl | rfl, ?_⟩ -- l = l
      refine ⟨by first | with_reducible rfl | rfl, ?_⟩ -- w = w
      refine ⟨by first | with_reducible rfl | rfl, ?_⟩ -- a = a
      refine ⟨by first | with_reducible rfl | rfl, ?_⟩ -- (0 : Nat) = (0 : Nat)
      refine ⟨by first | with_reducible rfl | rfl, ?_⟩ -- (0 : Nat) = (0 : Nat)
      refine ⟨by first | with_reducible rfl | rfl, ?_⟩ -- [] = []
      refine ⟨by first | with_reducible rfl | rfl, ?_⟩ -- (0 : Int) = (0 : Int)
      refine ⟨by first | with_reducible rfl | rfl, ?_⟩ -- [] = []
      refine ⟨by first | omega | (dsimp only; omega), ?_⟩ -- (0 : Int) ≤ (0 : Int) ∧ (0 : Int) ≤ (↑l.length : Int)
      refine ⟨by rfl, ?_⟩ -- [] = holdN l w (Int.toNat (0 : Int))
      refine ⟨by rfl, ?_⟩ -- [] = outs l w a (Int.toNat (0 : Int))
      refine ⟨by show (↑(0 : Nat) : Int) = (0 : Int); omega, ?_⟩ -- (↑(0 : Nat) : Int) = (0 : Int)
      refine ⟨by rfl, ?_⟩ -- firstE l w a (Int.toNat (0 : Int)) = (0 : Int)
      refine ⟨by show l.length ≤ (4096 : Nat); omega, ?_⟩ -- l.length ≤ (4096 : Nat)
      refine ⟨by show w.length = l.length; omega, ?_⟩ -- w.length = l.length
      exact by show a.length = l.length; omega -- a.length = l.length
    intro v_12
    intro h2 -- ((0 : Int) ≤ v_12.fst ∧ v_12.fst ≤ (↑l.length : Int)) ∧ v_12.snd.fst = holdN l w v_12.fst.toNat ∧ v_12.snd.snd = outs l w a v_12.fst.toNat ∧ (↑v_12.snd.snd.length : Int) = v_12.fst ∧ firstE l w a v_12.fst.toNat = (0 : Int) ∧ l.length ≤ (4096 : Nat) ∧ w.length = l.length ∧ a.length = l.length
    intro n14
    intro q14 -- n14 = (↑l.length : Int)
    intro ⟨l14, u14⟩ -- (-9223372036854775808 : Int) ≤ n14 ∧ n14 ≤ (9223372036854775807 : Int)
    refine brd (fun c3 => ?_) (fun c3 => ?_) -- decide (v_12.fst < n14)
    · -- yes
      refine ⟨by first | omega | (dsimp only; omega), ?_⟩ -- (0 : Int) ≤ v_12.fst
      refine ⟨by first | omega | (dsimp only; omega), ?_⟩ -- v_12.fst < (↑l.length : Int)
      refine ⟨by first | omega | (dsimp only; omega), ?_⟩ -- (0 : Int) ≤ v_12.fst
      refine ⟨by first | omega | (dsimp only; omega), ?_⟩ -- v_12.fst < (↑w.length : Int)
      intro n17
      intro q17 -- n17 = (↑(w.getD v_12.fst.toNat (0 : UInt8)).toNat : Int)
      intro ⟨l17, u17⟩ -- (0 : Int) ≤ n17 ∧ n17 ≤ (255 : Int)
      refine ⟨by first | omega | (dsimp only; omega), ?_⟩ -- (0 : Int) ≤ v_12.fst
      refine ⟨by first | omega | (dsimp only; omega), ?_⟩ -- v_12.fst < (↑a.length : Int)
      intro n20
      intro q20 -- n20 = a.getD v_12.fst.toNat (0 : Int)
      intro ⟨l20, u20⟩ -- (-9223372036854775808 : Int) ≤ n20 ∧ n20 ≤ (9223372036854775807 : Int)
      refine ⟨by exact ⟨by assumption, by assumption⟩, ?_⟩ -- (0 : Int) ≤ n17 ∧ n17 ≤ (255 : Int)
      refine ⟨by exact ⟨by assumption, by assumption⟩, ?_⟩ -- (-9223372036854775808 : Int) ≤ n20 ∧ n20 ≤ (9223372036854775807 : Int)
      intro e_23
      intro ys_24
      intro us_25
      intro h4 -- e_23 = wE v_12.snd.fst.length (l.getD v_12.fst.toNat (dflt (6 : Nat))).length n17 n20
      intro h5 -- e_23 = (0 : Int) → ys_24 = v_12.snd.fst ++ wOut (l.getD v_12.fst.toNat (dflt (6 : Nat))) n17 n20
      intro h6 -- e_23 = (0 : Int) → us_25 = if n17 = (3 : Int) then l.getD v_12.fst.toNat (dflt (6 : Nat)) else []
      refine br_intro (fun c7 => ?_) (fun c7 => ?_) -- e_23 != (0 : Int)
      · -- yes
        simp at c7 -- ¬e_23 = (0 : Int)
        -- k (AV.tup [AV.nilsl, AV.int IntKind.i64 e_23]) [] []
        have E : e_23 = errN l w a v_12.fst.toNat := by
          unfold errN; rw [← h2.2.1, ← q17, ← q20]; exact h4
        exact hk.1 e_23 (rE_run (k := v_12.fst.toNat) (by omega) h2.2.2.2.2.2.2.1 h2.2.2.2.2.2.2.2 h2.2.2.2.2.1 E c7 (by omega)) c7
      · -- no
        simp at c7 -- e_23 = (0 : Int)
        refine ⟨by first | omega | (dsimp only; omega), ?_⟩ -- (v_12.snd.snd.length + (1 : Nat)) * (24 : Nat) ≤ (140737488355328 : Nat)
        intro z29
        intro qz29 -- z29 = List.take v_12.snd.snd.length v_12.snd.snd ++ List.take (1 : Nat) (List.drop (0 : Nat) [ys_24])
        intro n31
        intro q31 -- n31 = IntKind.i64.wrap (v_12.fst + (1 : Int))
        rw [IntKind.wrap_i64] at q31
        intro ⟨l31, u31⟩ -- (-9223372036854775808 : Int) ≤ n31 ∧ n31 ≤ (9223372036854775807 : Int)
        refine ⟨(n31, us_25, z29), ?_⟩
        refine ⟨by first | with_reducible rfl | rfl, ?_⟩ -- l = l
        refine ⟨by first | with_reducible rfl | rfl, ?_⟩ -- w = w
        refine ⟨by first | with_reducible rfl | rfl, ?_⟩ -- a = a
        refine ⟨by first | with_reducible rfl | rfl, ?_⟩ -- (0 : Nat) = (0 : Nat)
        have h8 : v_12.snd.snd.length + (1 : Nat) = z29.length := by
          rw [qz29]; simp
        refine ⟨h8, ?_⟩
        refine ⟨by first | with_reducible rfl | rfl, ?_⟩ -- us_25 = us_25
        refine ⟨by first | with_reducible rfl | rfl, ?_⟩ -- n31 = n31
        refine ⟨by first | with_reducible rfl | rfl, ?_⟩ -- z29 = z29
        refine ⟨?_, ?_⟩
        · -- left
          refine ⟨by first | omega | (dsimp only; omega), ?_⟩ -- (0 : Int) ≤ n31 ∧ n31 ≤ (↑l.length : Int)
          have h9 : us_25 = holdN l w n31.toNat := by
            rw [show n31.toNat = v_12.fst.toNat + 1 by omega, h6 (by assumption), holdN]
            by_cases c : n17 = 3
            · rw [if_pos c, if_pos (by omega)]; rfl
            · rw [if_neg c, if_neg (by omega)]
          refine ⟨h9, ?_⟩
          have h10 : z29 = outs l w a n31.toNat := by
            rw [qz29, show n31.toNat = v_12.fst.toNat + 1 by omega, outs_succ, ← h2.2.2.1, List.take_of_length_le (Nat.le_refl _), h5 (by assumption)]
            unfold outN
            rw [← h2.2.1, ← q17, ← q20]
            rfl
          refine ⟨h10, ?_⟩
          refine ⟨by show (↑z29.length : Int) = n31; omega, ?_⟩ -- (↑z29.length : Int) = n31
          have h11 : firstE l w a n31.toNat = (0 : Int) := by
            have E : e_23 = errN l w a v_12.fst.toNat := by
              unfold errN; rw [← h2.2.1, ← q17, ← q20]; exact h4
            rw [show n31.toNat = v_12.fst.toNat + 1 by omega, firstE, if_pos h2.2.2.2.2.1]; exact E.symm.trans c7
          refine ⟨h11, ?_⟩
          refine ⟨by show l.length ≤ (4096 : Nat); omega, ?_⟩ -- l.length ≤ (4096 : Nat)
          refine ⟨by show w.length = l.length; omega, ?_⟩ -- w.length = l.length
          exact by show a.length = l.length; omega -- a.length = l.length
        exact by show ((↑l.length : Int) - n31).toNat < ((↑l.length : Int) - v_12.fst).toNat; omega -- ((↑l.length : Int) - n31).toNat < ((↑l.length : Int) - v_12.fst).toNat
    · -- no
      -- k (AV.tup [AV.row (6 : Nat) (0 : Nat) (0 : Nat) v_12.snd.snd.length, AV.int IntKind.i64 (0 : Int)]) [] [Blk.row (6 : Nat) v_12.snd.snd]
      rw [show v_12.snd.snd.length = l.length by omega]; exact hk.2 (rE_zero (by omega) h2.2.2.2.2.2.2.1 h2.2.2.2.2.2.2.2 (by have := h2.2.2.2.2.1; rwa [show v_12.fst.toNat = l.length by omega] at this)) _ (by rw [h2.2.2.1, show v_12.fst.toNat = l.length by omega])

theorem rrun_ok : Holds Try.prog 14 runS := by
  refine fn_sound (env := mkEnv T3) (tab_ok T3_ok) Try.func14 Try.call14 fun args k h => ?_
  match args, h with
  | [.sl 6 l, .sl 0 w, .sl 1 a], h => exact ⟨by kernel_rfl, rrunLoops l w a, fun _ _ => none, .cast (by kernel_rfl) (rrun_vc l w a k h)⟩
set_option maxHeartbeats 2000000 in
theorem joined_vc (l : List (List UInt8)) (ht : tot l ≤ (3000000 : Nat)) (k : AV → List (Option Blk) → List Blk → Prop) (hk : ∀ (ys : List UInt8) (n : Nat), ys = l.flatten → ys.length = n → k (AV.row (0 : Nat) (0 : Nat) (0 : Nat) n) [] [Blk.row (0 : Nat) ys]) :
  (
   ∃ (v : Int × List UInt8),
   (l = l) ∧
   ((0 : Nat) = (0 : Nat)) ∧
   ((0 : Nat) = v.snd.length) ∧
   ((0 : Int) = v.fst) ∧
   ([] = v.snd) ∧
   (
    ((0 : Int) ≤ v.fst) ∧
    (v.fst ≤ (↑l.length : Int))) ∧
   (v.snd = (List.take v.fst.toNat l).flatten) ∧
   (v.snd.length ≤ tot l) ∧
   (tot l ≤ (3000000 : Nat))) ∧
  ∀ (v_1 : Int × List UInt8),
  (((0 : Int) ≤ v_1.fst ∧ v_1.fst ≤ (↑l.length : Int)) ∧ v_1.snd = (List.take v_1.fst.toNat l).flatten ∧ v_1.snd.length ≤ tot l ∧ tot l ≤ (3000000 : Nat)) →
  ∀ (n3 : Int),
  (n3 = (↑l.length : Int)) →
  ((-9223372036854775808 : Int) ≤ n3 ∧ n3 ≤ (9223372036854775807 : Int)) →
  br (decide (v_1.fst < n3))
   (((0 : Int) ≤ v_1.fst) ∧
    (v_1.fst < (↑l.length : Int)) ∧
    ((v_1.snd.length + (l.getD v_1.fst.toNat (dflt (6 : Nat))).length) * (1 : Nat) ≤ (140737488355328 : Nat)) ∧
    ∀ (z6 : List UInt8),
    (z6 = List.take v_1.snd.length v_1.snd ++ l.getD v_1.fst.toNat (dflt (6 : Nat))) →
    ∀ (n8 : Int),
    (n8 = IntKind.i64.wrap (v_1.fst + (1 : Int))) →
    ((-9223372036854775808 : Int) ≤ n8 ∧ n8 ≤ (9223372036854775807 : Int)) →
    ∃ (v' : Int × List UInt8),
    (l = l) ∧
    ((0 : Nat) = (0 : Nat)) ∧
    (v_1.snd.length + (l.getD v_1.fst.toNat (dflt (6 : Nat))).length = v'.snd.length) ∧
    (n8 = v'.fst) ∧
    (z6 = v'.snd) ∧
    (
     (
      ((0 : Int) ≤ v'.fst) ∧
      (v'.fst ≤ (↑l.length : Int))) ∧
     (v'.snd = (List.take v'.fst.toNat l).flatten) ∧
     (v'.snd.length ≤ tot l) ∧
     (tot l ≤ (3000000 : Nat))) ∧
    (((↑l.length : Int) - v'.fst).toNat < ((↑l.length : Int) - v_1.fst).toNat))
   ((k (AV.row (0 : Nat) (0 : Nat) (0 : Nat) v_1.snd.length) [] [Blk.row (0 : Nat) v_1.snd])) := by
  refine ⟨?_, ?_⟩
  · -- left
    refine ⟨((0 : Int), []), ?_⟩
    refine ⟨by first | with_reducible rfl | rfl, ?_⟩ -- l = l
    refine ⟨by first | with_reducible rfl | rfl, ?_⟩ -- (0 : Nat) = (0 : Nat)
    refine ⟨by first | with_reducible rfl | rfl, ?_⟩ -- (0 : Nat) = (0 : Nat)
    refine ⟨by first | with_reducible rfl | rfl, ?_⟩ -- (0 : Int) = (0 : Int)
    refine ⟨by first | with_reducible rfl | rfl, ?_⟩ -- [] = []
    refine ⟨by first | omega | (dsimp only; omega), ?_⟩ -- (0 : Int) ≤ (0 : Int) ∧ (0 : Int) ≤ (↑l.length : Int)
    refine ⟨by rfl, ?_⟩ -- [] = (List.take (Int.toNat (0 : Int)) l).flatten
    refine ⟨by show (0 : Nat) ≤ tot l; omega, ?_⟩ -- (0 : Nat) ≤ tot l
    exact by show tot l ≤ (3000000 : Nat); assumption -- tot l ≤ (3000000 : Nat)
  intro v_1
  intro h1 -- ((0 : Int) ≤ v_1.fst ∧ v_1.fst ≤ (↑l.length : Int)) ∧ v_1.snd = (List.take v_1.fst.toNat l).flatten ∧ v_1.snd.length ≤ tot l ∧ tot l ≤ (3000000 : Nat)
  intro n3
  intro q3 -- n3 = (↑l.length : Int)
  intro ⟨l3, u3⟩ -- (-9223372036854775808 : Int) ≤ n3 ∧ n3 ≤ (9223372036854775807 : Int)
  refine brd (fun c2 => ?_) (fun c2 => ?_) -- decide (v_1.fst < n3)
  · -- yes
    refine ⟨by first | omega | (dsimp only; omega), ?_⟩ -- (0 : Int) ≤ v_1.fst
    refine ⟨by first | omega | (dsimp only; omega), ?_⟩ -- v_1.fst < (↑l.length : Int)
    have h3 : (v_1.snd.length + (l.getD v_1.fst.toNat (dflt (6 : Nat))).length) * (1 : Nat) ≤ (140737488355328 : Nat) := by
      have := get_tot l (i := v_1.fst.toNat) (by omega)
      have d : (l.getD v_1.fst.toNat (dflt 6)).length ≤ tot l := this
      omega
    refine ⟨h3, ?_⟩
    intro z6
    intro qz6 -- z6 = List.take v_1.snd.length v_1.snd ++ l.getD v_1.fst.toNat (dflt (6 : Nat))
    intro n8
    intro q8 -- n8 = IntKind.i64.wrap (v_1.fst + (1 : Int))
    rw [IntKind.wrap_i64] at q8
    intro ⟨l8, u8⟩ -- (-9223372036854775808 : Int) ≤ n8 ∧ n8 ≤ (9223372036854775807 : Int)
    refine ⟨(n8, z6), ?_⟩
    refine ⟨by first | with_reducible rfl | rfl, ?_⟩ -- l = l
    refine ⟨by first | with_reducible rfl | rfl, ?_⟩ -- (0 : Nat) = (0 : Nat)
    have h4 : v_1.snd.length + (l.getD v_1.fst.toNat (dflt (6 : Nat))).length = z6.length := by
      rw [qz6]; simp
    refine ⟨h4, ?_⟩
    refine ⟨by first | with_reducible rfl | rfl, ?_⟩ -- n8 = n8
    refine ⟨by first | with_reducible rfl | rfl, ?_⟩ -- z6 = z6
    refine ⟨?_, ?_⟩
    · -- left
      refine ⟨by first | omega | (dsimp only; omega), ?_⟩ -- (0 : Int) ≤ n8 ∧ n8 ≤ (↑l.length : Int)
      have h5 : z6 = (List.take n8.toNat l).flatten := by
        rw [qz6, show n8.toNat = v_1.fst.toNat + 1 by omega, flat_step l (by omega), ← h1.2.1, List.take_of_length_le (Nat.le_refl _)]
        rfl
      refine ⟨h5, ?_⟩
      have h6 : z6.length ≤ tot l := by
        rw [h5]; exact tot_take l _
      refine ⟨h6, ?_⟩
      exact by show tot l ≤ (3000000 : Nat); assumption -- tot l ≤ (3000000 : Nat)
    exact by show ((↑l.length : Int) - n8).toNat < ((↑l.length : Int) - v_1.fst).toNat; omega -- ((↑l.length : Int) - n8).toNat < ((↑l.length : Int) - v_1.fst).toNat
  · -- no
    -- k (AV.row (0 : Nat) (0 : Nat) (0 : Nat) v_1.snd.length) [] [Blk.row (0 : Nat) v_1.snd]
    exact hk _ _ (by rw [h1.2.1, show v_1.fst.toNat = l.length by omega, List.take_length]) rfl

theorem joined_ok : Holds Try.prog 17 joinedS := by
  refine fn_sound (env := mkEnv T0) (tab_ok T0_ok) Try.func17 Try.call17 fun args k h => ?_
  match args, h with
  | [.sl 6 l], h => exact ⟨by kernel_rfl, joinedLoops l, fun _ _ => none, .cast (by kernel_rfl) (joined_vc l h.1 k h.2)⟩
set_option maxHeartbeats 2000000 in
theorem small_vc (l : List (List UInt8)) (k : AV → List (Option Blk) → List Blk → Prop) (hk : ∀ (b : Bool), (b = true → l.length ≤ (200 : Nat) ∧ tot l ≤ (16384 : Nat)) → k (AV.bool b) [] []) :
  (
   ∃ (v : Int × Int),
   (l = l) ∧
   ((0 : Int) = v.snd) ∧
   ((0 : Int) = v.fst) ∧
   (
    ((0 : Int) ≤ v.fst) ∧
    (v.fst ≤ (↑l.length : Int)) ∧
    (v.fst ≤ (500 : Int))) ∧
   (v.snd = (↑(smin l (20000 : Nat) v.fst.toNat) : Int)) ∧
   ((0 : Int) ≤ v.snd) ∧
   (v.snd ≤ (20000 : Int) * v.fst)) ∧
  ∀ (v_1 : Int × Int),
  (((0 : Int) ≤ v_1.fst ∧ v_1.fst ≤ (↑l.length : Int) ∧ v_1.fst ≤ (500 : Int)) ∧ v_1.snd = (↑(smin l (20000 : Nat) v_1.fst.toNat) : Int) ∧ (0 : Int) ≤ v_1.snd ∧ v_1.snd ≤ (20000 : Int) * v_1.fst) →
  ∀ (n3 : Int),
  (n3 = (↑l.length : Int)) →
  ((-9223372036854775808 : Int) ≤ n3 ∧ n3 ≤ (9223372036854775807 : Int)) →
  br (bif decide (v_1.fst < n3) then decide (v_1.fst < (500 : Int)) else false)
   (((0 : Int) ≤ v_1.fst) ∧
    (v_1.fst < (↑l.length : Int)) ∧
    ∀ (n6 : Int),
    (n6 = (↑(l.getD v_1.fst.toNat (dflt (6 : Nat))).length : Int)) →
    ((-9223372036854775808 : Int) ≤ n6 ∧ n6 ≤ (9223372036854775807 : Int)) →
    ∀ (n9 : Int),
    (n9 = min n6 (20000 : Int)) →
    ((-9223372036854775808 : Int) ≤ n9 ∧ n9 ≤ (9223372036854775807 : Int)) →
    ∀ (n12 : Int),
    (n12 = IntKind.i64.wrap (v_1.snd + n9)) →
    ((-9223372036854775808 : Int) ≤ n12 ∧ n12 ≤ (9223372036854775807 : Int)) →
    ∀ (n15 : Int),
    (n15 = IntKind.i64.wrap (v_1.fst + (1 : Int))) →
    ((-9223372036854775808 : Int) ≤ n15 ∧ n15 ≤ (9223372036854775807 : Int)) →
    ∃ (v' : Int × Int),
    (l = l) ∧
    (n12 = v'.snd) ∧
    (n15 = v'.fst) ∧
    (
     (
      ((0 : Int) ≤ v'.fst) ∧
      (v'.fst ≤ (↑l.length : Int)) ∧
      (v'.fst ≤ (500 : Int))) ∧
     (v'.snd = (↑(smin l (20000 : Nat) v'.fst.toNat) : Int)) ∧
     ((0 : Int) ≤ v'.snd) ∧
     (v'.snd ≤ (20000 : Int) * v'.fst)) ∧
    (((↑l.length : Int) - v'.fst).toNat < ((↑l.length : Int) - v_1.fst).toNat))
   (∀ (n18 : Int),
    (n18 = (↑l.length : Int)) →
    ((-9223372036854775808 : Int) ≤ n18 ∧ n18 ≤ (9223372036854775807 : Int)) →
    (k (AV.bool (bif decide (n18 ≤ (200 : Int)) then decide (v_1.snd ≤ (16384 : Int)) else false)) [] [])) := by
  refine ⟨?_, ?_⟩
  · -- left
    refine ⟨((0 : Int), (0 : Int)), ?_⟩
    refine ⟨by first | with_reducible rfl | rfl, ?_⟩ -- l = l
    refine ⟨by first | with_reducible rfl | rfl, ?_⟩ -- (0 : Int) = (0 : Int)
    refine ⟨by first | with_reducible rfl | rfl, ?_⟩ -- (0 : Int) = (0 : Int)
    refine ⟨?_, ?_⟩
    · -- left
      refine ⟨by show (0 : Int) ≤ (0 : Int); omega, ?_⟩ -- (0 : Int) ≤ (0 : Int)
      refine ⟨by show (0 : Int) ≤ (↑l.length : Int); omega, ?_⟩ -- (0 : Int) ≤ (↑l.length : Int)
      exact by show (0 : Int) ≤ (500 : Int); omega -- (0 : Int) ≤ (500 : Int)
    refine ⟨by rfl, ?_⟩ -- (0 : Int) = (↑(smin l (20000 : Nat) (Int.toNat (0 : Int))) : Int)
    refine ⟨by show (0 : Int) ≤ (0 : Int); omega, ?_⟩ -- (0 : Int) ≤ (0 : Int)
    exact by show (0 : Int) ≤ (20000 : Int) * (0 : Int); omega -- (0 : Int) ≤ (20000 : Int) * (0 : Int)
  intro v_1
  intro h1 -- ((0 : Int) ≤ v_1.fst ∧ v_1.fst ≤ (↑l.length : Int) ∧ v_1.fst ≤ (500 : Int)) ∧ v_1.snd = (↑(smin l (20000 : Nat) v_1.fst.toNat) : Int) ∧ (0 : Int) ≤ v_1.snd ∧ v_1.snd ≤ (20000 : Int) * v_1.fst
  intro n3
  intro q3 -- n3 = (↑l.length : Int)
  intro ⟨l3, u3⟩ -- (-9223372036854775808 : Int) ≤ n3 ∧ n3 ≤ (9223372036854775807 : Int)
  refine br_intro (fun c2 => ?_) (fun c2 => ?_) -- bif decide (v_1.fst < n3) then decide (v_1.fst < (500 : Int)) else false
  · -- yes
    simp at c2 -- v_1.fst < n3 ∧ v_1.fst < (500 : Int)
    refine ⟨by first | omega | (dsimp only; omega), ?_⟩ -- (0 : Int) ≤ v_1.fst
    refine ⟨by first | omega | (dsimp only; omega), ?_⟩ -- v_1.fst < (↑l.length : Int)
    intro n6
    intro q6 -- n6 = (↑(l.getD v_1.fst.toNat (dflt (6 : Nat))).length : Int)
    intro ⟨l6, u6⟩ -- (-9223372036854775808 : Int) ≤ n6 ∧ n6 ≤ (9223372036854775807 : Int)
    intro n9
    intro q9 -- n9 = min n6 (20000 : Int)
    intro ⟨l9, u9⟩ -- (-9223372036854775808 : Int) ≤ n9 ∧ n9 ≤ (9223372036854775807 : Int)
    intro n12
    intro q12 -- n12 = IntKind.i64.wrap (v_1.snd + n9)
    rw [IntKind.wrap_i64] at q12
    intro ⟨l12, u12⟩ -- (-9223372036854775808 : Int) ≤ n12 ∧ n12 ≤ (9223372036854775807 : Int)
    intro n15
    intro q15 -- n15 = IntKind.i64.wrap (v_1.fst + (1 : Int))
    rw [IntKind.wrap_i64] at q15
    intro ⟨l15, u15⟩ -- (-9223372036854775808 : Int) ≤ n15 ∧ n15 ≤ (9223372036854775807 : Int)
    refine ⟨(n15, n12), ?_⟩
    refine ⟨by first | with_reducible rfl | rfl, ?_⟩ -- l = l
    refine ⟨by first | with_reducible rfl | rfl, ?_⟩ -- n12 = n12
    refine ⟨by first | with_reducible rfl | rfl, ?_⟩ -- n15 = n15
    refine ⟨?_, ?_⟩
    · -- left
      refine ⟨?_, ?_⟩
      · -- left
        refine ⟨by show (0 : Int) ≤ n15; omega, ?_⟩ -- (0 : Int) ≤ n15
        refine ⟨by show n15 ≤ (↑l.length : Int); omega, ?_⟩ -- n15 ≤ (↑l.length : Int)
        exact by show n15 ≤ (500 : Int); omega -- n15 ≤ (500 : Int)
      have h3 : n12 = (↑(smin l (20000 : Nat) n15.toNat) : Int) := by
        rw [show n15.toNat = v_1.fst.toNat + 1 by omega, smin]
        have e : (l.getD v_1.fst.toNat (dflt 6)).length = (l.getD v_1.fst.toNat []).length := rfl
        omega
      refine ⟨h3, ?_⟩
      refine ⟨by show (0 : Int) ≤ n12; omega, ?_⟩ -- (0 : Int) ≤ n12
      exact by show n12 ≤ (20000 : Int) * n15; omega -- n12 ≤ (20000 : Int) * n15
    exact by show ((↑l.length : Int) - n15).toNat < ((↑l.length : Int) - v_1.fst).toNat; omega -- ((↑l.length : Int) - n15).toNat < ((↑l.length : Int) - v_1.fst).toNat
  · -- no
    simp at c2 -- v_1.fst < n3 → (500 : Int) ≤ v_1.fst
    intro n18
    intro q18 -- n18 = (↑l.length : Int)
    intro ⟨l18, u18⟩ -- (-9223372036854775808 : Int) ≤ n18 ∧ n18 ≤ (9223372036854775807 : Int)
    -- k (AV.bool (bif decide (n18 ≤ (200 : Int)) then decide (v_1.snd ≤ (16384 : Int)) else false)) [] []
    exact hk _ fun hb => by
      have hb' : n18 ≤ 200 ∧ v_1.snd ≤ 16384 := by simpa using hb
      have e : v_1.fst.toNat = l.length := by omega
      have h := h1.2.1
      rw [e] at h
      exact ⟨by omega, smin_all l (c := 20000) (by decide) (by omega)⟩

theorem small_ok : Holds Try.prog 16 smallS := by
  refine fn_sound (env := mkEnv T0) (tab_ok T0_ok) Try.func16 Try.call16 fun args k h => ?_
  match args, h with
  | [.sl 6 l], h => exact ⟨by kernel_rfl, smallLoops l, fun _ _ => none, .cast (by kernel_rfl) (small_vc l k h)⟩
set_option maxHeartbeats 2000000 in
theorem heavy_vc (l : List (List UInt8)) (hl : l.length ≤ (1048576 : Nat)) (k : AV → List (Option Blk) → List Blk → Prop) (hk : ∀ (b : Bool), (b = false → l.length ≤ (5000 : Nat)) → k (AV.bool b) [] []) :
  (
   ∃ (v : Int × Int),
   (l = l) ∧
   ((0 : Int) = v.snd) ∧
   ((0 : Int) = v.fst) ∧
   (
    ((0 : Int) ≤ v.fst) ∧
    (v.fst ≤ (↑l.length : Int))) ∧
   (v.snd = (↑(smin l (100000 : Nat) v.fst.toNat) : Int)) ∧
   (
    ((0 : Int) ≤ v.snd) ∧
    (v.snd ≤ (100000 : Int) * v.fst)) ∧
   (l.length ≤ (1048576 : Nat))) ∧
  ∀ (v_1 : Int × Int),
  (((0 : Int) ≤ v_1.fst ∧ v_1.fst ≤ (↑l.length : Int)) ∧ v_1.snd = (↑(smin l (100000 : Nat) v_1.fst.toNat) : Int) ∧ ((0 : Int) ≤ v_1.snd ∧ v_1.snd ≤ (100000 : Int) * v_1.fst) ∧ l.length ≤ (1048576 : Nat)) →
  ∀ (n3 : Int),
  (n3 = (↑l.length : Int)) →
  ((-9223372036854775808 : Int) ≤ n3 ∧ n3 ≤ (9223372036854775807 : Int)) →
  br (decide (v_1.fst < n3))
   (((0 : Int) ≤ v_1.fst) ∧
    (v_1.fst < (↑l.length : Int)) ∧
    ∀ (n6 : Int),
    (n6 = (↑(l.getD v_1.fst.toNat (dflt (6 : Nat))).length : Int)) →
    ((-9223372036854775808 : Int) ≤ n6 ∧ n6 ≤ (9223372036854775807 : Int)) →
    ∀ (n9 : Int),
    (n9 = min n6 (100000 : Int)) →
    ((-9223372036854775808 : Int) ≤ n9 ∧ n9 ≤ (9223372036854775807 : Int)) →
    ∀ (n12 : Int),
    (n12 = IntKind.i64.wrap (v_1.snd + n9)) →
    ((-9223372036854775808 : Int) ≤ n12 ∧ n12 ≤ (9223372036854775807 : Int)) →
    ∀ (n15 : Int),
    (n15 = IntKind.i64.wrap (v_1.fst + (1 : Int))) →
    ((-9223372036854775808 : Int) ≤ n15 ∧ n15 ≤ (9223372036854775807 : Int)) →
    ∃ (v' : Int × Int),
    (l = l) ∧
    (n12 = v'.snd) ∧
    (n15 = v'.fst) ∧
    (
     (
      ((0 : Int) ≤ v'.fst) ∧
      (v'.fst ≤ (↑l.length : Int))) ∧
     (v'.snd = (↑(smin l (100000 : Nat) v'.fst.toNat) : Int)) ∧
     (
      ((0 : Int) ≤ v'.snd) ∧
      (v'.snd ≤ (100000 : Int) * v'.fst)) ∧
     (l.length ≤ (1048576 : Nat))) ∧
    (((↑l.length : Int) - v'.fst).toNat < ((↑l.length : Int) - v_1.fst).toNat))
   (∀ (n18 : Int),
    (n18 = (↑l.length : Int)) →
    ((-9223372036854775808 : Int) ≤ n18 ∧ n18 ≤ (9223372036854775807 : Int)) →
    (k (AV.bool (bif decide (n18 > (5000 : Int)) then true else decide (v_1.snd > (100000 : Int)))) [] [])) := by
  refine ⟨?_, ?_⟩
  · -- left
    refine ⟨((0 : Int), (0 : Int)), ?_⟩
    refine ⟨by first | with_reducible rfl | rfl, ?_⟩ -- l = l
    refine ⟨by first | with_reducible rfl | rfl, ?_⟩ -- (0 : Int) = (0 : Int)
    refine ⟨by first | with_reducible rfl | rfl, ?_⟩ -- (0 : Int) = (0 : Int)
    refine ⟨by first | omega | (dsimp only; omega), ?_⟩ -- (0 : Int) ≤ (0 : Int) ∧ (0 : Int) ≤ (↑l.length : Int)
    refine ⟨by rfl, ?_⟩ -- (0 : Int) = (↑(smin l (100000 : Nat) (Int.toNat (0 : Int))) : Int)
    refine ⟨by first | omega | (dsimp only; omega), ?_⟩ -- (0 : Int) ≤ (0 : Int) ∧ (0 : Int) ≤ (100000 : Int) * (0 : Int)
    exact by show l.length ≤ (1048576 : Nat); assumption -- l.length ≤ (1048576 : Nat)
  intro v_1
  intro h1 -- ((0 : Int) ≤ v_1.fst ∧ v_1.fst ≤ (↑l.length : Int)) ∧ v_1.snd = (↑(smin l (100000 : Nat) v_1.fst.toNat) : Int) ∧ ((0 : Int) ≤ v_1.snd ∧ v_1.snd ≤ (100000 : Int) * v_1.fst) ∧ l.length ≤ (1048576 : Nat)
  intro n3
  intro q3 -- n3 = (↑l.length : Int)
  intro ⟨l3, u3⟩ -- (-9223372036854775808 : Int) ≤ n3 ∧ n3 ≤ (9223372036854775807 : Int)
  refine brd (fun c2 => ?_) (fun c2 => ?_) -- decide (v_1.fst < n3)
  · -- yes
    refine ⟨by first | omega | (dsimp only; omega), ?_⟩ -- (0 : Int) ≤ v_1.fst
    refine ⟨by first | omega | (dsimp only; omega), ?_⟩ -- v_1.fst < (↑l.length : Int)
    intro n6
    intro q6 -- n6 = (↑(l.getD v_1.fst.toNat (dflt (6 : Nat))).length : Int)
    intro ⟨l6, u6⟩ -- (-9223372036854775808 : Int) ≤ n6 ∧ n6 ≤ (9223372036854775807 : Int)
    intro n9
    intro q9 -- n9 = min n6 (100000 : Int)
    intro ⟨l9, u9⟩ -- (-9223372036854775808 : Int) ≤ n9 ∧ n9 ≤ (9223372036854775807 : Int)
    intro n12
    intro q12 -- n12 = IntKind.i64.wrap (v_1.snd + n9)
    rw [IntKind.wrap_i64] at q12
    intro ⟨l12, u12⟩ -- (-9223372036854775808 : Int) ≤ n12 ∧ n12 ≤ (9223372036854775807 : Int)
    intro n15
    intro q15 -- n15 = IntKind.i64.wrap (v_1.fst + (1 : Int))
    rw [IntKind.wrap_i64] at q15
    intro ⟨l15, u15⟩ -- (-9223372036854775808 : Int) ≤ n15 ∧ n15 ≤ (9223372036854775807 : Int)
    refine ⟨(n15, n12), ?_⟩
    refine ⟨by first | with_reducible rfl | rfl, ?_⟩ -- l = l
    refine ⟨by first | with_reducible rfl | rfl, ?_⟩ -- n12 = n12
    refine ⟨by first | with_reducible rfl | rfl, ?_⟩ -- n15 = n15
    refine ⟨?_, ?_⟩
    · -- left
      refine ⟨by first | omega | (dsimp only; omega), ?_⟩ -- (0 : Int) ≤ n15 ∧ n15 ≤ (↑l.length : Int)
      have h3 : n12 = (↑(smin l (100000 : Nat) n15.toNat) : Int) := by
        rw [show n15.toNat = v_1.fst.toNat + 1 by omega, smin]
        have e : (l.getD v_1.fst.toNat (dflt 6)).length = (l.getD v_1.fst.toNat []).length := rfl
        omega
      refine ⟨h3, ?_⟩
      refine ⟨by first | omega | (dsimp only; omega), ?_⟩ -- (0 : Int) ≤ n12 ∧ n12 ≤ (100000 : Int) * n15
      exact by show l.length ≤ (1048576 : Nat); assumption -- l.length ≤ (1048576 : Nat)
    exact by show ((↑l.length : Int) - n15).toNat < ((↑l.length : Int) - v_1.fst).toNat; omega -- ((↑l.length : Int) - n15).toNat < ((↑l.length : Int) - v_1.fst).toNat
  · -- no
    intro n18
    intro q18 -- n18 = (↑l.length : Int)
    intro ⟨l18, u18⟩ -- (-9223372036854775808 : Int) ≤ n18 ∧ n18 ≤ (9223372036854775807 : Int)
    -- k (AV.bool (bif decide (n18 > (5000 : Int)) then true else decide (v_1.snd > (100000 : Int)))) [] []
    exact hk _ fun hb => by
      have hb' : n18 ≤ 5000 ∧ v_1.snd ≤ 100000 := by simpa using hb
      omega

theorem heavy_ok : Holds Try.prog 11 heavyS := by
  refine fn_sound (env := mkEnv T0) (tab_ok T0_ok) Try.func11 Try.call11 fun args k h => ?_
  match args, h with
  | [.sl 6 l], h => exact ⟨by kernel_rfl, heavyLoops l, fun _ _ => none, .cast (by kernel_rfl) (heavy_vc l h.1 k h.2)⟩
set_option maxHeartbeats 2000000 in
theorem twin_vc (l : List (List UInt8)) (ht : tot l ≤ (3000000 : Nat)) (hl : l.length ≤ (1000000 : Nat)) (k : AV → List (Option Blk) → List Blk → Prop) (hk : ∀ (ys : List (List UInt8)), ys = l → k (AV.row (6 : Nat) (0 : Nat) (0 : Nat) l.length) [] [Blk.row (6 : Nat) ys]) :
  (
   ∃ (v : Int × List (List UInt8)),
   (l = l) ∧
   ((0 : Nat) = (0 : Nat)) ∧
   ((0 : Nat) = v.snd.length) ∧
   ((0 : Int) = v.fst) ∧
   ([] = v.snd) ∧
   (
    ((0 : Int) ≤ v.fst) ∧
    (v.fst ≤ (↑l.length : Int))) ∧
   (v.snd = List.take v.fst.toNat l) ∧
   ((↑v.snd.length : Int) = v.fst) ∧
   (tot l ≤ (3000000 : Nat)) ∧
   (l.length ≤ (1000000 : Nat))) ∧
  ∀ (v_1 : Int × List (List UInt8)),
  (((0 : Int) ≤ v_1.fst ∧ v_1.fst ≤ (↑l.length : Int)) ∧ v_1.snd = List.take v_1.fst.toNat l ∧ (↑v_1.snd.length : Int) = v_1.fst ∧ tot l ≤ (3000000 : Nat) ∧ l.length ≤ (1000000 : Nat)) →
  ∀ (n3 : Int),
  (n3 = (↑l.length : Int)) →
  ((-9223372036854775808 : Int) ≤ n3 ∧ n3 ≤ (9223372036854775807 : Int)) →
  br (decide (v_1.fst < n3))
   (((0 : Int) ≤ v_1.fst) ∧
    (v_1.fst < (↑l.length : Int)) ∧
    ((l.getD v_1.fst.toNat (dflt (6 : Nat))).length * (1 : Nat) ≤ (140737488355328 : Nat)) ∧
    ∀ (z6 : List UInt8),
    (z6 = l.getD v_1.fst.toNat (dflt (6 : Nat))) →
    ((v_1.snd.length + (1 : Nat)) * (24 : Nat) ≤ (140737488355328 : Nat)) ∧
    ∀ (z8 : List (List UInt8)),
    (z8 = List.take v_1.snd.length v_1.snd ++ List.take (1 : Nat) (List.drop (0 : Nat) [List.take (l.getD v_1.fst.toNat (dflt (6 : Nat))).length (List.drop (0 : Nat) z6)])) →
    ∀ (n10 : Int),
    (n10 = IntKind.i64.wrap (v_1.fst + (1 : Int))) →
    ((-9223372036854775808 : Int) ≤ n10 ∧ n10 ≤ (9223372036854775807 : Int)) →
    ∃ (v' : Int × List (List UInt8)),
    (l = l) ∧
    ((0 : Nat) = (0 : Nat)) ∧
    (v_1.snd.length + (1 : Nat) = v'.snd.length) ∧
    (n10 = v'.fst) ∧
    (z8 = v'.snd) ∧
    (
     (
      ((0 : Int) ≤ v'.fst) ∧
      (v'.fst ≤ (↑l.length : Int))) ∧
     (v'.snd = List.take v'.fst.toNat l) ∧
     ((↑v'.snd.length : Int) = v'.fst) ∧
     (tot l ≤ (3000000 : Nat)) ∧
     (l.length ≤ (1000000 : Nat))) ∧
    (((↑l.length : Int) - v'.fst).toNat < ((↑l.length : Int) - v_1.fst).toNat))
   ((k (AV.row (6 : Nat) (0 : Nat) (0 : Nat) v_1.snd.length) [] [Blk.row (6 : Nat) v_1.snd])) := by
  refine ⟨?_, ?_⟩
  · -- left
    refine ⟨((0 : Int), []), ?_⟩
    refine ⟨by first | with_reducible rfl | rfl, ?_⟩ -- l = l
    refine ⟨by first | with_reducible rfl | rfl, ?_⟩ -- (0 : Nat) = (0 : Nat)
    refine ⟨by first | with_reducible rfl | rfl, ?_⟩ -- (0 : Nat) = (0 : Nat)
    refine ⟨by first | with_reducible rfl | rfl, ?_⟩ -- (0 : Int) = (0 : Int)
    refine ⟨by first | with_reducible rfl | rfl, ?_⟩ -- [] = []
    refine ⟨by first | omega | (dsimp only; omega), ?_⟩ -- (0 : Int) ≤ (0 : Int) ∧ (0 : Int) ≤ (↑l.length : Int)
    refine ⟨by rfl, ?_⟩ -- [] = List.take (Int.toNat (0 : Int)) l
    refine ⟨by show (↑(0 : Nat) : Int) = (0 : Int); omega, ?_⟩ -- (↑(0 : Nat) : Int) = (0 : Int)
    refine ⟨by show tot l ≤ (3000000 : Nat); assumption, ?_⟩ -- tot l ≤ (3000000 : Nat)
    exact by show l.length ≤ (1000000 : Nat); assumption -- l.length ≤ (1000000 : Nat)
  intro v_1
  intro h1 -- ((0 : Int) ≤ v_1.fst ∧ v_1.fst ≤ (↑l.length : Int)) ∧ v_1.snd = List.take v_1.fst.toNat l ∧ (↑v_1.snd.length : Int) = v_1.fst ∧ tot l ≤ (3000000 : Nat) ∧ l.length ≤ (1000000 : Nat)
  intro n3
  intro q3 -- n3 = (↑l.length : Int)
  intro ⟨l3, u3⟩ -- (-9223372036854775808 : Int) ≤ n3 ∧ n3 ≤ (9223372036854775807 : Int)
  refine brd (fun c2 => ?_) (fun c2 => ?_) -- decide (v_1.fst < n3)
  · -- yes
    refine ⟨by first | omega | (dsimp only; omega), ?_⟩ -- (0 : Int) ≤ v_1.fst
    refine ⟨by first | omega | (dsimp only; omega), ?_⟩ -- v_1.fst < (↑l.length : Int)
    have h3 : (l.getD v_1.fst.toNat (dflt (6 : Nat))).length * (1 : Nat) ≤ (140737488355328 : Nat) := by
      have := get_tot l (i := v_1.fst.toNat) (by omega)
      have d : (l.getD v_1.fst.toNat (dflt 6)).length ≤ tot l := this
      omega
    refine ⟨h3, ?_⟩
    intro z6
    intro qz6 -- z6 = l.getD v_1.fst.toNat (dflt (6 : Nat))
    refine ⟨by first | omega | (dsimp only; omega), ?_⟩ -- (v_1.snd.length + (1 : Nat)) * (24 : Nat) ≤ (140737488355328 : Nat)
    intro z8
    intro qz8 -- z8 = List.take v_1.snd.length v_1.snd ++ List.take (1 : Nat) (List.drop (0 : Nat) [List.take (l.getD v_1.fst.toNat (dflt (6 : Nat))).length (List.drop (0 : Nat) z6)])
    intro n10
    intro q10 -- n10 = IntKind.i64.wrap (v_1.fst + (1 : Int))
    rw [IntKind.wrap_i64] at q10
    intro ⟨l10, u10⟩ -- (-9223372036854775808 : Int) ≤ n10 ∧ n10 ≤ (9223372036854775807 : Int)
    refine ⟨(n10, z8), ?_⟩
    refine ⟨by first | with_reducible rfl | rfl, ?_⟩ -- l = l
    refine ⟨by first | with_reducible rfl | rfl, ?_⟩ -- (0 : Nat) = (0 : Nat)
    have h4 : v_1.snd.length + (1 : Nat) = z8.length := by
      rw [qz8]; simp
    refine ⟨h4, ?_⟩
    refine ⟨by first | with_reducible rfl | rfl, ?_⟩ -- n10 = n10
    refine ⟨by first | with_reducible rfl | rfl, ?_⟩ -- z8 = z8
    refine ⟨?_, ?_⟩
    · -- left
      refine ⟨by first | omega | (dsimp only; omega), ?_⟩ -- (0 : Int) ≤ n10 ∧ n10 ≤ (↑l.length : Int)
      have h5 : z8 = List.take n10.toNat l := by
        rw [qz8, qz6, show n10.toNat = v_1.fst.toNat + 1 by omega, take_stepL l [] (by omega), ← h1.2.1, List.take_of_length_le (Nat.le_refl _)]
        show _ ++ [List.take _ (List.drop 0 _)] = _
        rw [List.drop_zero, List.take_length]
        rfl
      refine ⟨h5, ?_⟩
      refine ⟨by show (↑z8.length : Int) = n10; omega, ?_⟩ -- (↑z8.length : Int) = n10
      refine ⟨by show tot l ≤ (3000000 : Nat); assumption, ?_⟩ -- tot l ≤ (3000000 : Nat)
      exact by show l.length ≤ (1000000 : Nat); assumption -- l.length ≤ (1000000 : Nat)
    exact by show ((↑l.length : Int) - n10).toNat < ((↑l.length : Int) - v_1.fst).toNat; omega -- ((↑l.length : Int) - n10).toNat < ((↑l.length : Int) - v_1.fst).toNat
  · -- no
    -- k (AV.row (6 : Nat) (0 : Nat) (0 : Nat) v_1.snd.length) [] [Blk.row (6 : Nat) v_1.snd]
    rw [show v_1.snd.length = l.length by omega]
    exact hk _ (by rw [h1.2.1, show v_1.fst.toNat = l.length by omega, List.take_length])

theorem twin_ok : Holds Try.prog 12 twinS := by
  refine fn_sound (env := mkEnv T0) (tab_ok T0_ok) Try.func12 Try.call12 fun args k h => ?_
  match args, h with
  | [.sl 6 l], h => exact ⟨by kernel_rfl, twinLoops l, fun _ _ => none, .cast (by kernel_rfl) (twin_vc l h.1 h.2.1 k h.2.2)⟩
set_option maxHeartbeats 2000000 in
theorem same_vc (p : List (List UInt8)) (q : List (List UInt8)) (k : AV → List (Option Blk) → List Blk → Prop) (hk : ∀ (b : Bool), (eqL p q → b = true) → k (AV.bool b) [] []) :
  ∀ (n1 : Int),
  (n1 = (↑p.length : Int)) →
  ((-9223372036854775808 : Int) ≤ n1 ∧ n1 ≤ (9223372036854775807 : Int)) →
  ∀ (n4 : Int),
  (n4 = (↑q.length : Int)) →
  ((-9223372036854775808 : Int) ≤ n4 ∧ n4 ≤ (9223372036854775807 : Int)) →
  br (n1 != n4)
   ((k (AV.bool false) [] []))
   ((
     ∃ (v : Int),
     (p = p) ∧
     (q = q) ∧
     ((0 : Int) = v) ∧
     (
      ((0 : Int) ≤ v) ∧
      (v ≤ (↑p.length : Int))) ∧
     (p.length = q.length)) ∧
    ∀ (v_7 : Int),
    (((0 : Int) ≤ v_7 ∧ v_7 ≤ (↑p.length : Int)) ∧ p.length = q.length) →
    ∀ (n9 : Int),
    (n9 = (↑p.length : Int)) →
    ((-9223372036854775808 : Int) ≤ n9 ∧ n9 ≤ (9223372036854775807 : Int)) →
    br (decide (v_7 < n9))
     (((0 : Int) ≤ v_7) ∧
      (v_7 < (↑p.length : Int)) ∧
      ((0 : Int) ≤ v_7) ∧
      (v_7 < (↑q.length : Int)) ∧
      br (!{ data := (p.getD v_7.toNat (dflt (6 : Nat))).toArray : ByteArray }.data.toList == { data := (q.getD v_7.toNat (dflt (6 : Nat))).toArray : ByteArray }.data.toList)
       ((k (AV.bool false) [] []))
       (∀ (n12 : Int),
        (n12 = IntKind.i64.wrap (v_7 + (1 : Int))) →
        ((-9223372036854775808 : Int) ≤ n12 ∧ n12 ≤ (9223372036854775807 : Int)) →
        ∃ (v' : Int),
        (p = p) ∧
        (q = q) ∧
        (n12 = v') ∧
        (
         (
          ((0 : Int) ≤ v') ∧
          (v' ≤ (↑p.length : Int))) ∧
         (p.length = q.length)) ∧
        (((↑p.length : Int) - v').toNat < ((↑p.length : Int) - v_7).toNat)))
     ((k (AV.bool true) [] []))) := by
  intro n1
  intro q1 -- n1 = (↑p.length : Int)
  intro ⟨l1, u1⟩ -- (-9223372036854775808 : Int) ≤ n1 ∧ n1 ≤ (9223372036854775807 : Int)
  intro n4
  intro q4 -- n4 = (↑q.length : Int)
  intro ⟨l4, u4⟩ -- (-9223372036854775808 : Int) ≤ n4 ∧ n4 ≤ (9223372036854775807 : Int)
  refine br_intro (fun c1 => ?_) (fun c1 => ?_) -- n1 != n4
  · -- yes
    simp at c1 -- ¬n1 = n4
    -- k (AV.bool false) [] []
    exact hk false (fun e => absurd (congrArg List.length e.e) (by omega))
  · -- no
    simp at c1 -- n1 = n4
    refine ⟨?_, ?_⟩
    · -- left
      refine ⟨(0 : Int), ?_⟩
      refine ⟨by first | with_reducible rfl | rfl, ?_⟩ -- p = p
      refine ⟨by first | with_reducible rfl | rfl, ?_⟩ -- q = q
      refine ⟨by first | with_reducible rfl | rfl, ?_⟩ -- (0 : Int) = (0 : Int)
      refine ⟨by first | omega | (dsimp only; omega), ?_⟩ -- (0 : Int) ≤ (0 : Int) ∧ (0 : Int) ≤ (↑p.length : Int)
      exact by show p.length = q.length; omega -- p.length = q.length
    intro v_7
    intro h2 -- ((0 : Int) ≤ v_7 ∧ v_7 ≤ (↑p.length : Int)) ∧ p.length = q.length
    intro n9
    intro q9 -- n9 = (↑p.length : Int)
    intro ⟨l9, u9⟩ -- (-9223372036854775808 : Int) ≤ n9 ∧ n9 ≤ (9223372036854775807 : Int)
    refine brd (fun c3 => ?_) (fun c3 => ?_) -- decide (v_7 < n9)
    · -- yes
      refine ⟨by first | omega | (dsimp only; omega), ?_⟩ -- (0 : Int) ≤ v_7
      refine ⟨by first | omega | (dsimp only; omega), ?_⟩ -- v_7 < (↑p.length : Int)
      refine ⟨by first | omega | (dsimp only; omega), ?_⟩ -- (0 : Int) ≤ v_7
      refine ⟨by first | omega | (dsimp only; omega), ?_⟩ -- v_7 < (↑q.length : Int)
      refine br_intro (fun c4 => ?_) (fun c4 => ?_) -- !{ data := (p.getD v_7.toNat (dflt (6 : Nat))).toArray : ByteArray }.data.toList == { data := (q.getD v_7.toNat (dflt (6 : Nat))).toArray : ByteArray }.data.toList
      · -- yes
        simp at c4 -- ¬p[v_7.toNat]?.getD (dflt (6 : Nat)) = q[v_7.toNat]?.getD (dflt (6 : Nat))
        -- k (AV.bool false) [] []
        exact hk false (fun e => absurd (by rw [e.e]) c4)
      · -- no
        simp at c4 -- p[v_7.toNat]?.getD (dflt (6 : Nat)) = q[v_7.toNat]?.getD (dflt (6 : Nat))
        intro n12
        intro q12 -- n12 = IntKind.i64.wrap (v_7 + (1 : Int))
        rw [IntKind.wrap_i64] at q12
        intro ⟨l12, u12⟩ -- (-9223372036854775808 : Int) ≤ n12 ∧ n12 ≤ (9223372036854775807 : Int)
        refine ⟨n12, ?_⟩
        refine ⟨by first | with_reducible rfl | rfl, ?_⟩ -- p = p
        refine ⟨by first | with_reducible rfl | rfl, ?_⟩ -- q = q
        refine ⟨by first | with_reducible rfl | rfl, ?_⟩ -- n12 = n12
        refine ⟨?_, ?_⟩
        · -- left
          refine ⟨by first | omega | (dsimp only; omega), ?_⟩ -- (0 : Int) ≤ n12 ∧ n12 ≤ (↑p.length : Int)
          exact by show p.length = q.length; omega -- p.length = q.length
        exact by show ((↑p.length : Int) - n12).toNat < ((↑p.length : Int) - v_7).toNat; omega -- ((↑p.length : Int) - n12).toNat < ((↑p.length : Int) - v_7).toNat
    · -- no
      -- k (AV.bool true) [] []
      exact hk true fun _ => rfl

theorem same_ok : Holds Try.prog 15 sameS := by
  refine fn_sound (env := mkEnv T0) (tab_ok T0_ok) Try.func15 Try.call15 fun args k h => ?_
  match args, h with
  | [.sl 6 p, .sl 6 q], h => exact ⟨by kernel_rfl, sameLoops p q, fun _ _ => none, .cast (by kernel_rfl) (same_vc p q k h)⟩
end Go.Proofs.Ytkcnpemaocdnkaa

