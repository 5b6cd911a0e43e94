import Derived.Test.YtpkfadgennejnaaLkN
namespace Go.Proofs.Ytpkfadgennejnaa
open Go Go.Eng Go.Rw Go.Lk Go.Proofs
set_option linter.unusedVariables false
set_option maxHeartbeats 2000000 in
theorem putn_vc (l : List Int) (hl : l.length ≤ (1000000 : Nat)) (k : AV → List (Option Blk) → List Blk → Prop) (hk : ∀ (ys : List UInt8) (n : Nat), ys = sms l → ys.length = n → k (AV.row (0 : Nat) (0 : Nat) (0 : Nat) n) [] [Blk.row (0 : Nat) ys]) :
  ∀ (n1 : Int),
  (n1 = (↑l.length : Int)) →
  ((-9223372036854775808 : Int) ≤ n1 ∧ n1 ≤ (9223372036854775807 : Int)) →
  (
   ∃ (v : Nat × Nat × List UInt8),
   ((0 : Nat) = (0 : Nat)) ∧
   ((0 : Nat) = v.snd.fst) ∧
   (l = l) ∧
   (n1 = (↑l.length : Int)) ∧
   ((0 : Int) = (↑v.fst : Int)) ∧
   ([] = v.snd.snd) ∧
   (v.fst ≤ l.length) ∧
   (l.length ≤ (1000000 : Nat)) ∧
   (v.snd.snd.length = v.snd.fst) ∧
   (v.snd.fst ≤ (10 : Nat) * v.fst) ∧
   (v.snd.snd = sms (List.take v.fst l))) ∧
  ∀ (v_4 : Nat × Nat × List UInt8),
  (v_4.fst ≤ l.length ∧ l.length ≤ (1000000 : Nat) ∧ v_4.snd.snd.length = v_4.snd.fst ∧ v_4.snd.fst ≤ (10 : Nat) * v_4.fst ∧ v_4.snd.snd = sms (List.take v_4.fst l)) →
  br (decide ((↑v_4.fst : Int) < (↑l.length : Int)))
   (((0 : Int) ≤ (↑v_4.fst : Int)) ∧
    ((↑v_4.fst : Int) < (↑l.length : Int)) ∧
    ∀ (n6 : Int),
    (n6 = l.getD (↑v_4.fst : Int).toNat (0 : Int)) →
    ((-9223372036854775808 : Int) ≤ n6 ∧ n6 ≤ (9223372036854775807 : Int)) →
    ∀ (n9 : Int),
    (n9 = IntKind.u64.wrap n6) →
    ((0 : Int) ≤ n9 ∧ n9 ≤ (18446744073709551615 : Int)) →
    (
     ((0 : Int) ≤ n9) ∧
     (n9 ≤ (18446744073709551615 : Int))) ∧
    ∀ (ys_12 : List UInt8),
    ∀ (q_13 : Nat),
    (ys_12 = smallL n9.toNat) →
    (ys_12.length = q_13) →
    (q_13 ≤ (10 : Nat)) →
    ((v_4.snd.fst + q_13) * (1 : Nat) ≤ (140737488355328 : Nat)) ∧
    ∀ (z17 : List UInt8),
    (z17 = List.take v_4.snd.fst v_4.snd.snd ++ List.take q_13 (List.drop (0 : Nat) ys_12)) →
    ∀ (n19 : Int),
    (n19 = IntKind.i64.wrap ((↑v_4.fst : Int) + (1 : Int))) →
    ((-9223372036854775808 : Int) ≤ n19 ∧ n19 ≤ (9223372036854775807 : Int)) →
    ∃ (v' : Nat × Nat × List UInt8),
    ((0 : Nat) = (0 : Nat)) ∧
    (v_4.snd.fst + q_13 = v'.snd.fst) ∧
    (l = l) ∧
    ((↑l.length : Int) = (↑l.length : Int)) ∧
    (n19 = (↑v'.fst : Int)) ∧
    (z17 = v'.snd.snd) ∧
    (
     (v'.fst ≤ l.length) ∧
     (l.length ≤ (1000000 : Nat)) ∧
     (v'.snd.snd.length = v'.snd.fst) ∧
     (v'.snd.fst ≤ (10 : Nat) * v'.fst) ∧
     (v'.snd.snd = sms (List.take v'.fst l))) ∧
    (l.length - v'.fst < l.length - v_4.fst))
   ((k (AV.row (0 : Nat) (0 : Nat) (0 : Nat) v_4.snd.fst) [] [Blk.row (0 : Nat) v_4.snd.snd])) := by
  intro n1
  intro q1 -- n1 = (↑l.length : Int)
  intro ⟨l1, u1⟩ -- (-9223372036854775808 : Int) ≤ n1 ∧ n1 ≤ (9223372036854775807 : Int)
  refine ⟨?_, ?_⟩
  · -- left
    refine ⟨(Int.toNat (0 : Int), (0 : Nat), []), ?_⟩
    refine ⟨by first | with_reducible rfl | rfl, ?_⟩ -- (0 : Nat) = (0 : Nat)
    refine ⟨by first | with_reducible rfl | rfl, ?_⟩ -- (0 : Nat) = (0 : Nat)
    refine ⟨by first | with_reducible rfl | rfl, ?_⟩ -- l = l
    refine ⟨by show n1 = (↑l.length : Int); assumption, ?_⟩ -- n1 = (↑l.length : Int)
    refine ⟨by show (0 : Int) = (↑(Int.toNat (0 : Int)) : Int); omega, ?_⟩ -- (0 : Int) = (↑(Int.toNat (0 : Int)) : Int)
    refine ⟨by first | with_reducible rfl | rfl, ?_⟩ -- [] = []
    refine ⟨by show Int.toNat (0 : Int) ≤ l.length; omega, ?_⟩ -- Int.toNat (0 : Int) ≤ l.length
    refine ⟨by show l.length ≤ (1000000 : Nat); assumption, ?_⟩ -- l.length ≤ (1000000 : Nat)
    refine ⟨by first | with_reducible rfl | rfl, ?_⟩ -- (0 : Nat) = (0 : Nat)
    refine ⟨by show (0 : Nat) ≤ (10 : Nat) * Int.toNat (0 : Int); omega, ?_⟩ -- (0 : Nat) ≤ (10 : Nat) * Int.toNat (0 : Int)
    exact by rfl -- [] = sms (List.take (Int.toNat (0 : Int)) l)
  intro v_4
  intro h1 -- v_4.fst ≤ l.length ∧ l.length ≤ (1000000 : Nat) ∧ v_4.snd.snd.length = v_4.snd.fst ∧ v_4.snd.fst ≤ (10 : Nat) * v_4.fst ∧ v_4.snd.snd = sms (List.take v_4.fst l)
  refine brd (fun c2 => ?_) (fun c2 => ?_) -- decide ((↑v_4.fst : Int) < (↑l.length : Int))
  · -- yes
    refine ⟨by first | omega | (dsimp only; omega), ?_⟩ -- (0 : Int) ≤ (↑v_4.fst : Int)
    refine ⟨by assumption, ?_⟩ -- (↑v_4.fst : Int) < (↑l.length : Int)
    intro n6
    intro q6 -- n6 = l.getD (↑v_4.fst : Int).toNat (0 : Int)
    intro ⟨l6, u6⟩ -- (-9223372036854775808 : Int) ≤ n6 ∧ n6 ≤ (9223372036854775807 : Int)
    intro n9
    intro q9 -- n9 = IntKind.u64.wrap n6
    rw [IntKind.wrap_u64] at q9
    intro ⟨l9, u9⟩ -- (0 : Int) ≤ n9 ∧ n9 ≤ (18446744073709551615 : Int)
    refine ⟨by exact ⟨by assumption, by assumption⟩, ?_⟩ -- (0 : Int) ≤ n9 ∧ n9 ≤ (18446744073709551615 : Int)
    intro ys_12
    intro q_13
    intro h3 -- ys_12 = smallL n9.toNat
    intro h4 -- ys_12.length = q_13
    intro h5 -- q_13 ≤ (10 : Nat)
    refine ⟨by first | omega | (dsimp only; omega), ?_⟩ -- (v_4.snd.fst + q_13) * (1 : Nat) ≤ (140737488355328 : Nat)
    intro z17
    intro qz17 -- z17 = List.take v_4.snd.fst v_4.snd.snd ++ List.take q_13 (List.drop (0 : Nat) ys_12)
    intro n19
    intro q19 -- n19 = IntKind.i64.wrap ((↑v_4.fst : Int) + (1 : Int))
    rw [IntKind.wrap_i64] at q19
    intro ⟨l19, u19⟩ -- (-9223372036854775808 : Int) ≤ n19 ∧ n19 ≤ (9223372036854775807 : Int)
    refine ⟨(n19.toNat, v_4.snd.fst + q_13, z17), ?_⟩
    refine ⟨by first | with_reducible rfl | rfl, ?_⟩ -- (0 : Nat) = (0 : Nat)
    refine ⟨by first | with_reducible rfl | rfl, ?_⟩ -- v_4.snd.fst + q_13 = v_4.snd.fst + q_13
    refine ⟨by first | with_reducible rfl | rfl, ?_⟩ -- l = l
    refine ⟨by first | with_reducible rfl | rfl, ?_⟩ -- (↑l.length : Int) = (↑l.length : Int)
    refine ⟨by show n19 = (↑n19.toNat : Int); omega, ?_⟩ -- n19 = (↑n19.toNat : Int)
    refine ⟨by first | with_reducible rfl | rfl, ?_⟩ -- z17 = z17
    refine ⟨?_, ?_⟩
    · -- left
      refine ⟨by show n19.toNat ≤ l.length; omega, ?_⟩ -- n19.toNat ≤ l.length
      refine ⟨by show l.length ≤ (1000000 : Nat); assumption, ?_⟩ -- l.length ≤ (1000000 : Nat)
      have h6 : z17.length = v_4.snd.fst + q_13 := by
        rw [qz17, List.length_append, List.length_take, List.length_take, List.length_drop]; omega
      refine ⟨h6, ?_⟩
      refine ⟨by show v_4.snd.fst + q_13 ≤ (10 : Nat) * n19.toNat; omega, ?_⟩ -- v_4.snd.fst + q_13 ≤ (10 : Nat) * n19.toNat
      -- z17 = sms (List.take n19.toNat l)
      have se : ys_12 = smI (l.getD v_4.fst 0) := by unfold smI; rw [h3, q9, q6, Int.toNat_natCast]
      rw [show n19.toNat = v_4.fst + 1 by omega, sms_step (by omega), ← h1.2.2.2.2, qz17, ← h4, List.drop_zero, List.take_length, List.take_of_length_le (by omega), se]
    exact by show l.length - n19.toNat < l.length - v_4.fst; omega -- l.length - n19.toNat < l.length - v_4.fst
  · -- no
    -- k (AV.row (0 : Nat) (0 : Nat) (0 : Nat) v_4.snd.fst) [] [Blk.row (0 : Nat) v_4.snd.snd]
    exact hk _ _ (by rw [h1.2.2.2.2, List.take_of_length_le (by omega)]) h1.2.2.1

theorem putn_ok : Holds Try.prog 36 putN := by
  refine fn_soundB (env := mkEnv M1) (tab_ok M1_ok) Try.func36 Try.call36 (fun args B k h => ?_) (by decide)
  unfold putN at h
  dsimp only at h
  split at h
  · rename_i l
    exact ⟨by kernel_rfl, putNLoops l, fun _ _ => none, .cast (by kernel_rfl) (putn_vc l h.1 k h.2)⟩
  · exact h.elim
set_option maxHeartbeats 2000000 in
theorem putb_vc (q : Nat) (l : List Int) (xs : List UInt8) (hl : q = xs.length ∧ q ≤ (1000000 : Nat) ∧ l.length ≤ (1000000 : Nat)) (k : AV → List (Option Blk) → List Blk → Prop) (hk : ∀ (ys : List UInt8) (n : Nat), ys = xs ++ sms l → ys.length = n → k (AV.row (0 : Nat) (1 : Nat) (0 : Nat) n) [none] [Blk.row (0 : Nat) ys]) :
  ∀ (n1 : Int),
  (n1 = (↑l.length : Int)) →
  ((-9223372036854775808 : Int) ≤ n1 ∧ n1 ≤ (9223372036854775807 : Int)) →
  (
   ∃ (v : Nat × Nat × List UInt8),
   ((0 : Nat) = (0 : Nat)) ∧
   (q = v.snd.fst) ∧
   (l = l) ∧
   (n1 = (↑l.length : Int)) ∧
   ((0 : Int) = (↑v.fst : Int)) ∧
   (xs = v.snd.snd) ∧
   (v.fst ≤ l.length) ∧
   (
    (q = xs.length) ∧
    (q ≤ (1000000 : Nat)) ∧
    (l.length ≤ (1000000 : Nat))) ∧
   (v.snd.snd.length = v.snd.fst) ∧
   (v.snd.fst ≤ (1000000 : Nat) + (10 : Nat) * v.fst) ∧
   (v.snd.snd = xs ++ sms (List.take v.fst l))) ∧
  ∀ (v_4 : Nat × Nat × List UInt8),
  (v_4.fst ≤ l.length ∧ (q = xs.length ∧ q ≤ (1000000 : Nat) ∧ l.length ≤ (1000000 : Nat)) ∧ v_4.snd.snd.length = v_4.snd.fst ∧ v_4.snd.fst ≤ (1000000 : Nat) + (10 : Nat) * v_4.fst ∧ v_4.snd.snd = xs ++ sms (List.take v_4.fst l)) →
  br (decide ((↑v_4.fst : Int) < (↑l.length : Int)))
   (((0 : Int) ≤ (↑v_4.fst : Int)) ∧
    ((↑v_4.fst : Int) < (↑l.length : Int)) ∧
    ∀ (n6 : Int),
    (n6 = l.getD (↑v_4.fst : Int).toNat (0 : Int)) →
    ((-9223372036854775808 : Int) ≤ n6 ∧ n6 ≤ (9223372036854775807 : Int)) →
    ∀ (n9 : Int),
    (n9 = IntKind.u64.wrap n6) →
    ((0 : Int) ≤ n9 ∧ n9 ≤ (18446744073709551615 : Int)) →
    (
     ((0 : Int) ≤ n9) ∧
     (n9 ≤ (18446744073709551615 : Int))) ∧
    ∀ (ys_12 : List UInt8),
    ∀ (q_13 : Nat),
    (ys_12 = smallL n9.toNat) →
    (ys_12.length = q_13) →
    (q_13 ≤ (10 : Nat)) →
    ((v_4.snd.fst + q_13) * (1 : Nat) ≤ (140737488355328 : Nat)) ∧
    ∀ (z17 : List UInt8),
    (z17 = List.take v_4.snd.fst v_4.snd.snd ++ List.take q_13 (List.drop (0 : Nat) ys_12)) →
    ∀ (n19 : Int),
    (n19 = IntKind.i64.wrap ((↑v_4.fst : Int) + (1 : Int))) →
    ((-9223372036854775808 : Int) ≤ n19 ∧ n19 ≤ (9223372036854775807 : Int)) →
    ∃ (v' : Nat × Nat × List UInt8),
    ((0 : Nat) = (0 : Nat)) ∧
    (v_4.snd.fst + q_13 = v'.snd.fst) ∧
    (l = l) ∧
    ((↑l.length : Int) = (↑l.length : Int)) ∧
    (n19 = (↑v'.fst : Int)) ∧
    (z17 = v'.snd.snd) ∧
    (
     (v'.fst ≤ l.length) ∧
     (
      (q = xs.length) ∧
      (q ≤ (1000000 : Nat)) ∧
      (l.length ≤ (1000000 : Nat))) ∧
     (v'.snd.snd.length = v'.snd.fst) ∧
     (v'.snd.fst ≤ (1000000 : Nat) + (10 : Nat) * v'.fst) ∧
     (v'.snd.snd = xs ++ sms (List.take v'.fst l))) ∧
    (l.length - v'.fst < l.length - v_4.fst))
   ((k (AV.row (0 : Nat) (1 : Nat) (0 : Nat) v_4.snd.fst) [none] [Blk.row (0 : Nat) v_4.snd.snd])) := by
  intro n1
  intro q1 -- n1 = (↑l.length : Int)
  intro ⟨l1, u1⟩ -- (-9223372036854775808 : Int) ≤ n1 ∧ n1 ≤ (9223372036854775807 : Int)
  refine ⟨?_, ?_⟩
  · -- left
    refine ⟨(Int.toNat (0 : Int), q, xs), ?_⟩
    refine ⟨by first | with_reducible rfl | rfl, ?_⟩ -- (0 : Nat) = (0 : Nat)
    refine ⟨by first | with_reducible rfl | rfl, ?_⟩ -- q = q
    refine ⟨by first | with_reducible rfl | rfl, ?_⟩ -- l = l
    refine ⟨by show n1 = (↑l.length : Int); assumption, ?_⟩ -- n1 = (↑l.length : Int)
    refine ⟨by show (0 : Int) = (↑(Int.toNat (0 : Int)) : Int); omega, ?_⟩ -- (0 : Int) = (↑(Int.toNat (0 : Int)) : Int)
    refine ⟨by first | with_reducible rfl | rfl, ?_⟩ -- xs = xs
    refine ⟨by show Int.toNat (0 : Int) ≤ l.length; omega, ?_⟩ -- Int.toNat (0 : Int) ≤ l.length
    refine ⟨?_, ?_⟩
    · -- left
      refine ⟨by show q = xs.length; omega, ?_⟩ -- q = xs.length
      refine ⟨by show q ≤ (1000000 : Nat); omega, ?_⟩ -- q ≤ (1000000 : Nat)
      exact by show l.length ≤ (1000000 : Nat); omega -- l.length ≤ (1000000 : Nat)
    refine ⟨by show xs.length = q; omega, ?_⟩ -- xs.length = q
    refine ⟨by show q ≤ (1000000 : Nat) + (10 : Nat) * Int.toNat (0 : Int); omega, ?_⟩ -- q ≤ (1000000 : Nat) + (10 : Nat) * Int.toNat (0 : Int)
    -- xs = xs ++ sms (List.take (Int.toNat (0 : Int)) l)
    simp [sms]
  intro v_4
  intro h1 -- v_4.fst ≤ l.length ∧ (q = xs.length ∧ q ≤ (1000000 : Nat) ∧ l.length ≤ (1000000 : Nat)) ∧ v_4.snd.snd.length = v_4.snd.fst ∧ v_4.snd.fst ≤ (1000000 : Nat) + (10 : Nat) * v_4.fst ∧ v_4.snd.snd = xs ++ sms (List.take v_4.fst l)
  refine brd (fun c2 => ?_) (fun c2 => ?_) -- decide ((↑v_4.fst : Int) < (↑l.length : Int))
  · -- yes
    refine ⟨by first | omega | (dsimp only; omega), ?_⟩ -- (0 : Int) ≤ (↑v_4.fst : Int)
    refine ⟨by assumption, ?_⟩ -- (↑v_4.fst : Int) < (↑l.length : Int)
    intro n6
    intro q6 -- n6 = l.getD (↑v_4.fst : Int).toNat (0 : Int)
    intro ⟨l6, u6⟩ -- (-9223372036854775808 : Int) ≤ n6 ∧ n6 ≤ (9223372036854775807 : Int)
    intro n9
    intro q9 -- n9 = IntKind.u64.wrap n6
    rw [IntKind.wrap_u64] at q9
    intro ⟨l9, u9⟩ -- (0 : Int) ≤ n9 ∧ n9 ≤ (18446744073709551615 : Int)
    refine ⟨by exact ⟨by assumption, by assumption⟩, ?_⟩ -- (0 : Int) ≤ n9 ∧ n9 ≤ (18446744073709551615 : Int)
    intro ys_12
    intro q_13
    intro h3 -- ys_12 = smallL n9.toNat
    intro h4 -- ys_12.length = q_13
    intro h5 -- q_13 ≤ (10 : Nat)
    refine ⟨by first | omega | (dsimp only; omega), ?_⟩ -- (v_4.snd.fst + q_13) * (1 : Nat) ≤ (140737488355328 : Nat)
    intro z17
    intro qz17 -- z17 = List.take v_4.snd.fst v_4.snd.snd ++ List.take q_13 (List.drop (0 : Nat) ys_12)
    intro n19
    intro q19 -- n19 = IntKind.i64.wrap ((↑v_4.fst : Int) + (1 : Int))
    rw [IntKind.wrap_i64] at q19
    intro ⟨l19, u19⟩ -- (-9223372036854775808 : Int) ≤ n19 ∧ n19 ≤ (9223372036854775807 : Int)
    refine ⟨(n19.toNat, v_4.snd.fst + q_13, z17), ?_⟩
    refine ⟨by first | with_reducible rfl | rfl, ?_⟩ -- (0 : Nat) = (0 : Nat)
    refine ⟨by first | with_reducible rfl | rfl, ?_⟩ -- v_4.snd.fst + q_13 = v_4.snd.fst + q_13
    refine ⟨by first | with_reducible rfl | rfl, ?_⟩ -- l = l
    refine ⟨by first | with_reducible rfl | rfl, ?_⟩ -- (↑l.length : Int) = (↑l.length : Int)
    refine ⟨by show n19 = (↑n19.toNat : Int); omega, ?_⟩ -- n19 = (↑n19.toNat : Int)
    refine ⟨by first | with_reducible rfl | rfl, ?_⟩ -- z17 = z17
    refine ⟨?_, ?_⟩
    · -- left
      refine ⟨by show n19.toNat ≤ l.length; omega, ?_⟩ -- n19.toNat ≤ l.length
      refine ⟨?_, ?_⟩
      · -- left
        refine ⟨by show q = xs.length; omega, ?_⟩ -- q = xs.length
        refine ⟨by show q ≤ (1000000 : Nat); omega, ?_⟩ -- q ≤ (1000000 : Nat)
        exact by show l.length ≤ (1000000 : Nat); omega -- l.length ≤ (1000000 : Nat)
      have h6 : z17.length = v_4.snd.fst + q_13 := by
        rw [qz17, List.length_append, List.length_take, List.length_take, List.length_drop]; omega
      refine ⟨h6, ?_⟩
      refine ⟨by show v_4.snd.fst + q_13 ≤ (1000000 : Nat) + (10 : Nat) * n19.toNat; omega, ?_⟩ -- v_4.snd.fst + q_13 ≤ (1000000 : Nat) + (10 : Nat) * n19.toNat
      -- z17 = xs ++ sms (List.take n19.toNat l)
      have se : ys_12 = smI (l.getD v_4.fst 0) := by unfold smI; rw [h3, q9, q6, Int.toNat_natCast]
      rw [show n19.toNat = v_4.fst + 1 by omega, sms_step (by omega), ← List.append_assoc, ← h1.2.2.2.2, qz17, ← h4, List.drop_zero, List.take_length, List.take_of_length_le (by omega), se]
    exact by show l.length - n19.toNat < l.length - v_4.fst; omega -- l.length - n19.toNat < l.length - v_4.fst
  · -- no
    -- k (AV.row (0 : Nat) (1 : Nat) (0 : Nat) v_4.snd.fst) [none] [Blk.row (0 : Nat) v_4.snd.snd]
    exact hk _ _ (by rw [h1.2.2.2.2, List.take_of_length_le (by omega)]) h1.2.2.1

theorem putb_ok : Holds Try.prog 36 putB := by
  refine fn_soundB (env := mkEnv M1) (tab_ok M1_ok) Try.func36 Try.call36 (fun args B k h => ?_) (by decide)
  unfold putB at h
  dsimp only at h
  split at h
  · rename_i q l xs
    exact ⟨by kernel_rfl, putBLoops q l xs, fun _ _ => none, .cast (by kernel_rfl) (putb_vc q l xs h.1 k h.2)⟩
  · exact h.elim
theorem put_ok : Holds Try.prog 36 putX := put_up putn_ok putb_ok
set_option maxHeartbeats 2000000 in
theorem sputn_vc (l : List Int) (hl : l.length ≤ (1000000 : Nat)) (k : AV → List (Option Blk) → List Blk → Prop) (hk : ∀ (ys : List UInt8) (n : Nat), ys = sms l → ys.length = n → k (AV.row (0 : Nat) (0 : Nat) (0 : Nat) n) [] [Blk.row (0 : Nat) ys]) :
  ∀ (n1 : Int),
  (n1 = (↑l.length : Int)) →
  ((-9223372036854775808 : Int) ≤ n1 ∧ n1 ≤ (9223372036854775807 : Int)) →
  (
   ∃ (v : Nat × Nat × List UInt8),
   ((0 : Nat) = (0 : Nat)) ∧
   ((0 : Nat) = v.snd.fst) ∧
   (l = l) ∧
   (n1 = (↑l.length : Int)) ∧
   ((0 : Int) = (↑v.fst : Int)) ∧
   ([] = v.snd.snd) ∧
   (v.fst ≤ l.length) ∧
   (l.length ≤ (1000000 : Nat)) ∧
   (v.snd.snd.length = v.snd.fst) ∧
   (v.snd.fst ≤ (10 : Nat) * v.fst) ∧
   (v.snd.snd = sms (List.take v.fst l))) ∧
  ∀ (v_4 : Nat × Nat × List UInt8),
  (v_4.fst ≤ l.length ∧ l.length ≤ (1000000 : Nat) ∧ v_4.snd.snd.length = v_4.snd.fst ∧ v_4.snd.fst ≤ (10 : Nat) * v_4.fst ∧ v_4.snd.snd = sms (List.take v_4.fst l)) →
  br (decide ((↑v_4.fst : Int) < (↑l.length : Int)))
   (((0 : Int) ≤ (↑v_4.fst : Int)) ∧
    ((↑v_4.fst : Int) < (↑l.length : Int)) ∧
    ∀ (n6 : Int),
    (n6 = l.getD (↑v_4.fst : Int).toNat (0 : Int)) →
    ((-9223372036854775808 : Int) ≤ n6 ∧ n6 ≤ (9223372036854775807 : Int)) →
    ∀ (n9 : Int),
    (n9 = IntKind.u64.wrap n6) →
    ((0 : Int) ≤ n9 ∧ n9 ≤ (18446744073709551615 : Int)) →
    (
     ((0 : Int) ≤ n9) ∧
     (n9 ≤ (18446744073709551615 : Int))) ∧
    ∀ (ys_12 : List UInt8),
    ∀ (q_13 : Nat),
    (ys_12 = smallL n9.toNat) →
    (ys_12.length = q_13) →
    (q_13 ≤ (10 : Nat)) →
    ((v_4.snd.fst + q_13) * (1 : Nat) ≤ (140737488355328 : Nat)) ∧
    ∀ (z17 : List UInt8),
    (z17 = List.take v_4.snd.fst v_4.snd.snd ++ List.take q_13 (List.drop (0 : Nat) ys_12)) →
    ∀ (n19 : Int),
    (n19 = IntKind.i64.wrap ((↑v_4.fst : Int) + (1 : Int))) →
    ((-9223372036854775808 : Int) ≤ n19 ∧ n19 ≤ (9223372036854775807 : Int)) →
    ∃ (v' : Nat × Nat × List UInt8),
    ((0 : Nat) = (0 : Nat)) ∧
    (v_4.snd.fst + q_13 = v'.snd.fst) ∧
    (l = l) ∧
    ((↑l.length : Int) = (↑l.length : Int)) ∧
    (n19 = (↑v'.fst : Int)) ∧
    (z17 = v'.snd.snd) ∧
    (
     (v'.fst ≤ l.length) ∧
     (l.length ≤ (1000000 : Nat)) ∧
     (v'.snd.snd.length = v'.snd.fst) ∧
     (v'.snd.fst ≤ (10 : Nat) * v'.fst) ∧
     (v'.snd.snd = sms (List.take v'.fst l))) ∧
    (l.length - v'.fst < l.length - v_4.fst))
   ((k (AV.row (0 : Nat) (0 : Nat) (0 : Nat) v_4.snd.fst) [] [Blk.row (0 : Nat) v_4.snd.snd])) := by
  intro n1
  intro q1 -- n1 = (↑l.length : Int)
  intro ⟨l1, u1⟩ -- (-9223372036854775808 : Int) ≤ n1 ∧ n1 ≤ (9223372036854775807 : Int)
  refine ⟨?_, ?_⟩
  · -- left
    refine ⟨(Int.toNat (0 : Int), (0 : Nat), []), ?_⟩
    refine ⟨by first | with_reducible rfl | rfl, ?_⟩ -- (0 : Nat) = (0 : Nat)
    refine ⟨by first | with_reducible rfl | rfl, ?_⟩ -- (0 : Nat) = (0 : Nat)
    refine ⟨by first | with_reducible rfl | rfl, ?_⟩ -- l = l
    refine ⟨by show n1 = (↑l.length : Int); assumption, ?_⟩ -- n1 = (↑l.length : Int)
    refine ⟨by show (0 : Int) = (↑(Int.toNat (0 : Int)) : Int); omega, ?_⟩ -- (0 : Int) = (↑(Int.toNat (0 : Int)) : Int)
    refine ⟨by first | with_reducible rfl | rfl, ?_⟩ -- [] = []
    refine ⟨by show Int.toNat (0 : Int) ≤ l.length; omega, ?_⟩ -- Int.toNat (0 : Int) ≤ l.length
    refine ⟨by show l.length ≤ (1000000 : Nat); assumption, ?_⟩ -- l.length ≤ (1000000 : Nat)
    refine ⟨by first | with_reducible rfl | rfl, ?_⟩ -- (0 : Nat) = (0 : Nat)
    refine ⟨by show (0 : Nat) ≤ (10 : Nat) * Int.toNat (0 : Int); omega, ?_⟩ -- (0 : Nat) ≤ (10 : Nat) * Int.toNat (0 : Int)
    exact by rfl -- [] = sms (List.take (Int.toNat (0 : Int)) l)
  intro v_4
  intro h1 -- v_4.fst ≤ l.length ∧ l.length ≤ (1000000 : Nat) ∧ v_4.snd.snd.length = v_4.snd.fst ∧ v_4.snd.fst ≤ (10 : Nat) * v_4.fst ∧ v_4.snd.snd = sms (List.take v_4.fst l)
  refine brd (fun c2 => ?_) (fun c2 => ?_) -- decide ((↑v_4.fst : Int) < (↑l.length : Int))
  · -- yes
    refine ⟨by first | omega | (dsimp only; omega), ?_⟩ -- (0 : Int) ≤ (↑v_4.fst : Int)
    refine ⟨by assumption, ?_⟩ -- (↑v_4.fst : Int) < (↑l.length : Int)
    intro n6
    intro q6 -- n6 = l.getD (↑v_4.fst : Int).toNat (0 : Int)
    intro ⟨l6, u6⟩ -- (-9223372036854775808 : Int) ≤ n6 ∧ n6 ≤ (9223372036854775807 : Int)
    intro n9
    intro q9 -- n9 = IntKind.u64.wrap n6
    rw [IntKind.wrap_u64] at q9
    intro ⟨l9, u9⟩ -- (0 : Int) ≤ n9 ∧ n9 ≤ (18446744073709551615 : Int)
    refine ⟨by exact ⟨by assumption, by assumption⟩, ?_⟩ -- (0 : Int) ≤ n9 ∧ n9 ≤ (18446744073709551615 : Int)
    intro ys_12
    intro q_13
    intro h3 -- ys_12 = smallL n9.toNat
    intro h4 -- ys_12.length = q_13
    intro h5 -- q_13 ≤ (10 : Nat)
    refine ⟨by first | omega | (dsimp only; omega), ?_⟩ -- (v_4.snd.fst + q_13) * (1 : Nat) ≤ (140737488355328 : Nat)
    intro z17
    intro qz17 -- z17 = List.take v_4.snd.fst v_4.snd.snd ++ List.take q_13 (List.drop (0 : Nat) ys_12)
    intro n19
    intro q19 -- n19 = IntKind.i64.wrap ((↑v_4.fst : Int) + (1 : Int))
    rw [IntKind.wrap_i64] at q19
    intro ⟨l19, u19⟩ -- (-9223372036854775808 : Int) ≤ n19 ∧ n19 ≤ (9223372036854775807 : Int)
    refine ⟨(n19.toNat, v_4.snd.fst + q_13, z17), ?_⟩
    refine ⟨by first | with_reducible rfl | rfl, ?_⟩ -- (0 : Nat) = (0 : Nat)
    refine ⟨by first | with_reducible rfl | rfl, ?_⟩ -- v_4.snd.fst + q_13 = v_4.snd.fst + q_13
    refine ⟨by first | with_reducible rfl | rfl, ?_⟩ -- l = l
    refine ⟨by first | with_reducible rfl | rfl, ?_⟩ -- (↑l.length : Int) = (↑l.length : Int)
    refine ⟨by show n19 = (↑n19.toNat : Int); omega, ?_⟩ -- n19 = (↑n19.toNat : Int)
    refine ⟨by first | with_reducible rfl | rfl, ?_⟩ -- z17 = z17
    refine ⟨?_, ?_⟩
    · -- left
      refine ⟨by show n19.toNat ≤ l.length; omega, ?_⟩ -- n19.toNat ≤ l.length
      refine ⟨by show l.length ≤ (1000000 : Nat); assumption, ?_⟩ -- l.length ≤ (1000000 : Nat)
      have h6 : z17.length = v_4.snd.fst + q_13 := by
        rw [qz17, List.length_append, List.length_take, List.length_take, List.length_drop]; omega
      refine ⟨h6, ?_⟩
      refine ⟨by show v_4.snd.fst + q_13 ≤ (10 : Nat) * n19.toNat; omega, ?_⟩ -- v_4.snd.fst + q_13 ≤ (10 : Nat) * n19.toNat
      -- z17 = sms (List.take n19.toNat l)
      have se : ys_12 = smI (l.getD v_4.fst 0) := by unfold smI; rw [h3, q9, q6, Int.toNat_natCast]
      rw [show n19.toNat = v_4.fst + 1 by omega, sms_step (by omega), ← h1.2.2.2.2, qz17, ← h4, List.drop_zero, List.take_length, List.take_of_length_le (by omega), se]
    exact by show l.length - n19.toNat < l.length - v_4.fst; omega -- l.length - n19.toNat < l.length - v_4.fst
  · -- no
    -- k (AV.row (0 : Nat) (0 : Nat) (0 : Nat) v_4.snd.fst) [] [Blk.row (0 : Nat) v_4.snd.snd]
    exact hk _ _ (by rw [h1.2.2.2.2, List.take_of_length_le (by omega)]) h1.2.2.1

theorem sputn_ok : Holds Try.prog 44 putN := by
  refine fn_soundB (env := mkEnv M1) (tab_ok M1_ok) Try.func44 Try.call44 (fun args B k h => ?_) (by decide)
  unfold putN at h
  dsimp only at h
  split at h
  · rename_i l
    exact ⟨by kernel_rfl, putNLoops l, fun _ _ => none, .cast (by kernel_rfl) (sputn_vc l h.1 k h.2)⟩
  · exact h.elim
set_option maxHeartbeats 2000000 in
theorem sputb_vc (q : Nat) (l : List Int) (xs : List UInt8) (hl : q = xs.length ∧ q ≤ (1000000 : Nat) ∧ l.length ≤ (1000000 : Nat)) (k : AV → List (Option Blk) → List Blk → Prop) (hk : ∀ (ys : List UInt8) (n : Nat), ys = xs ++ sms l → ys.length = n → k (AV.row (0 : Nat) (1 : Nat) (0 : Nat) n) [none] [Blk.row (0 : Nat) ys]) :
  ∀ (n1 : Int),
  (n1 = (↑l.length : Int)) →
  ((-9223372036854775808 : Int) ≤ n1 ∧ n1 ≤ (9223372036854775807 : Int)) →
  (
   ∃ (v : Nat × Nat × List UInt8),
   ((0 : Nat) = (0 : Nat)) ∧
   (q = v.snd.fst) ∧
   (l = l) ∧
   (n1 = (↑l.length : Int)) ∧
   ((0 : Int) = (↑v.fst : Int)) ∧
   (xs = v.snd.snd) ∧
   (v.fst ≤ l.length) ∧
   (
    (q = xs.length) ∧
    (q ≤ (1000000 : Nat)) ∧
    (l.length ≤ (1000000 : Nat))) ∧
   (v.snd.snd.length = v.snd.fst) ∧
   (v.snd.fst ≤ (1000000 : Nat) + (10 : Nat) * v.fst) ∧
   (v.snd.snd = xs ++ sms (List.take v.fst l))) ∧
  ∀ (v_4 : Nat × Nat × List UInt8),
  (v_4.fst ≤ l.length ∧ (q = xs.length ∧ q ≤ (1000000 : Nat) ∧ l.length ≤ (1000000 : Nat)) ∧ v_4.snd.snd.length = v_4.snd.fst ∧ v_4.snd.fst ≤ (1000000 : Nat) + (10 : Nat) * v_4.fst ∧ v_4.snd.snd = xs ++ sms (List.take v_4.fst l)) →
  br (decide ((↑v_4.fst : Int) < (↑l.length : Int)))
   (((0 : Int) ≤ (↑v_4.fst : Int)) ∧
    ((↑v_4.fst : Int) < (↑l.length : Int)) ∧
    ∀ (n6 : Int),
    (n6 = l.getD (↑v_4.fst : Int).toNat (0 : Int)) →
    ((-9223372036854775808 : Int) ≤ n6 ∧ n6 ≤ (9223372036854775807 : Int)) →
    ∀ (n9 : Int),
    (n9 = IntKind.u64.wrap n6) →
    ((0 : Int) ≤ n9 ∧ n9 ≤ (18446744073709551615 : Int)) →
    (
     ((0 : Int) ≤ n9) ∧
     (n9 ≤ (18446744073709551615 : Int))) ∧
    ∀ (ys_12 : List UInt8),
    ∀ (q_13 : Nat),
    (ys_12 = smallL n9.toNat) →
    (ys_12.length = q_13) →
    (q_13 ≤ (10 : Nat)) →
    ((v_4.snd.fst + q_13) * (1 : Nat) ≤ (140737488355328 : Nat)) ∧
    ∀ (z17 : List UInt8),
    (z17 = List.take v_4.snd.fst v_4.snd.snd ++ List.take q_13 (List.drop (0 : Nat) ys_12)) →
    ∀ (n19 : Int),
    (n19 = IntKind.i64.wrap ((↑v_4.fst : Int) + (1 : Int))) →
    ((-9223372036854775808 : Int) ≤ n19 ∧ n19 ≤ (9223372036854775807 : Int)) →
    ∃ (v' : Nat × Nat × List UInt8),
    ((0 : Nat) = (0 : Nat)) ∧
    (v_4.snd.fst + q_13 = v'.snd.fst) ∧
    (l = l) ∧
    ((↑l.length : Int) = (↑l.length : Int)) ∧
    (n19 = (↑v'.fst : Int)) ∧
    (z17 = v'.snd.snd) ∧
    (
     (v'.fst ≤ l.length) ∧
     (
      (q = xs.length) ∧
      (q ≤ (1000000 : Nat)) ∧
      (l.length ≤ (1000000 : Nat))) ∧
     (v'.snd.snd.length = v'.snd.fst) ∧
     (v'.snd.fst ≤ (1000000 : Nat) + (10 : Nat) * v'.fst) ∧
     (v'.snd.snd = xs ++ sms (List.take v'.fst l))) ∧
    (l.length - v'.fst < l.length - v_4.fst))
   ((k (AV.row (0 : Nat) (1 : Nat) (0 : Nat) v_4.snd.fst) [none] [Blk.row (0 : Nat) v_4.snd.snd])) := by
  intro n1
  intro q1 -- n1 = (↑l.length : Int)
  intro ⟨l1, u1⟩ -- (-9223372036854775808 : Int) ≤ n1 ∧ n1 ≤ (9223372036854775807 : Int)
  refine ⟨?_, ?_⟩
  · -- left
    refine ⟨(Int.toNat (0 : Int), q, xs), ?_⟩
    refine ⟨by first | with_reducible rfl | rfl, ?_⟩ -- (0 : Nat) = (0 : Nat)
    refine ⟨by first | with_reducible rfl | rfl, ?_⟩ -- q = q
    refine ⟨by first | with_reducible rfl | rfl, ?_⟩ -- l = l
    refine ⟨by show n1 = (↑l.length : Int); assumption, ?_⟩ -- n1 = (↑l.length : Int)
    refine ⟨by show (0 : Int) = (↑(Int.toNat (0 : Int)) : Int); omega, ?_⟩ -- (0 : Int) = (↑(Int.toNat (0 : Int)) : Int)
    refine ⟨by first | with_reducible rfl | rfl, ?_⟩ -- xs = xs
    refine ⟨by show Int.toNat (0 : Int) ≤ l.length; omega, ?_⟩ -- Int.toNat (0 : Int) ≤ l.length
    refine ⟨?_, ?_⟩
    · -- left
      refine ⟨by show q = xs.length; omega, ?_⟩ -- q = xs.length
      refine ⟨by show q ≤ (1000000 : Nat); omega, ?_⟩ -- q ≤ (1000000 : Nat)
      exact by show l.length ≤ (1000000 : Nat); omega -- l.length ≤ (1000000 : Nat)
    refine ⟨by show xs.length = q; omega, ?_⟩ -- xs.length = q
    refine ⟨by show q ≤ (1000000 : Nat) + (10 : Nat) * Int.toNat (0 : Int); omega, ?_⟩ -- q ≤ (1000000 : Nat) + (10 : Nat) * Int.toNat (0 : Int)
    -- xs = xs ++ sms (List.take (Int.toNat (0 : Int)) l)
    simp [sms]
  intro v_4
  intro h1 -- v_4.fst ≤ l.length ∧ (q = xs.length ∧ q ≤ (1000000 : Nat) ∧ l.length ≤ (1000000 : Nat)) ∧ v_4.snd.snd.length = v_4.snd.fst ∧ v_4.snd.fst ≤ (1000000 : Nat) + (10 : Nat) * v_4.fst ∧ v_4.snd.snd = xs ++ sms (List.take v_4.fst l)
  refine brd (fun c2 => ?_) (fun c2 => ?_) -- decide ((↑v_4.fst : Int) < (↑l.length : Int))
  · -- yes
    refine ⟨by first | omega | (dsimp only; omega), ?_⟩ -- (0 : Int) ≤ (↑v_4.fst : Int)
    refine ⟨by assumption, ?_⟩ -- (↑v_4.fst : Int) < (↑l.length : Int)
    intro n6
    intro q6 -- n6 = l.getD (↑v_4.fst : Int).toNat (0 : Int)
    intro ⟨l6, u6⟩ -- (-9223372036854775808 : Int) ≤ n6 ∧ n6 ≤ (9223372036854775807 : Int)
    intro n9
    intro q9 -- n9 = IntKind.u64.wrap n6
    rw [IntKind.wrap_u64] at q9
    intro ⟨l9, u9⟩ -- (0 : Int) ≤ n9 ∧ n9 ≤ (18446744073709551615 : Int)
    refine ⟨by exact ⟨by assumption, by assumption⟩, ?_⟩ -- (0 : Int) ≤ n9 ∧ n9 ≤ (18446744073709551615 : Int)
    intro ys_12
    intro q_13
    intro h3 -- ys_12 = smallL n9.toNat
    intro h4 -- ys_12.length = q_13
    intro h5 -- q_13 ≤ (10 : Nat)
    refine ⟨by first | omega | (dsimp only; omega), ?_⟩ -- (v_4.snd.fst + q_13) * (1 : Nat) ≤ (140737488355328 : Nat)
    intro z17
    intro qz17 -- z17 = List.take v_4.snd.fst v_4.snd.snd ++ List.take q_13 (List.drop (0 : Nat) ys_12)
    intro n19
    intro q19 -- n19 = IntKind.i64.wrap ((↑v_4.fst : Int) + (1 : Int))
    rw [IntKind.wrap_i64] at q19
    intro ⟨l19, u19⟩ -- (-9223372036854775808 : Int) ≤ n19 ∧ n19 ≤ (9223372036854775807 : Int)
    refine ⟨(n19.toNat, v_4.snd.fst + q_13, z17), ?_⟩
    refine ⟨by first | with_reducible rfl | rfl, ?_⟩ -- (0 : Nat) = (0 : Nat)
    refine ⟨by first | with_reducible rfl | rfl, ?_⟩ -- v_4.snd.fst + q_13 = v_4.snd.fst + q_13
    refine ⟨by first | with_reducible rfl | rfl, ?_⟩ -- l = l
    refine ⟨by first | with_reducible rfl | rfl, ?_⟩ -- (↑l.length : Int) = (↑l.length : Int)
    refine ⟨by show n19 = (↑n19.toNat : Int); omega, ?_⟩ -- n19 = (↑n19.toNat : Int)
    refine ⟨by first | with_reducible rfl | rfl, ?_⟩ -- z17 = z17
    refine ⟨?_, ?_⟩
    · -- left
      refine ⟨by show n19.toNat ≤ l.length; omega, ?_⟩ -- n19.toNat ≤ l.length
      refine ⟨?_, ?_⟩
      · -- left
        refine ⟨by show q = xs.length; omega, ?_⟩ -- q = xs.length
        refine ⟨by show q ≤ (1000000 : Nat); omega, ?_⟩ -- q ≤ (1000000 : Nat)
        exact by show l.length ≤ (1000000 : Nat); omega -- l.length ≤ (1000000 : Nat)
      have h6 : z17.length = v_4.snd.fst + q_13 := by
        rw [qz17, List.length_append, List.length_take, List.length_take, List.length_drop]; omega
      refine ⟨h6, ?_⟩
      refine ⟨by show v_4.snd.fst + q_13 ≤ (1000000 : Nat) + (10 : Nat) * n19.toNat; omega, ?_⟩ -- v_4.snd.fst + q_13 ≤ (1000000 : Nat) + (10 : Nat) * n19.toNat
      -- z17 = xs ++ sms (List.take n19.toNat l)
      have se : ys_12 = smI (l.getD v_4.fst 0) := by unfold smI; rw [h3, q9, q6, Int.toNat_natCast]
      rw [show n19.toNat = v_4.fst + 1 by omega, sms_step (by omega), ← List.append_assoc, ← h1.2.2.2.2, qz17, ← h4, List.drop_zero, List.take_length, List.take_of_length_le (by omega), se]
    exact by show l.length - n19.toNat < l.length - v_4.fst; omega -- l.length - n19.toNat < l.length - v_4.fst
  · -- no
    -- k (AV.row (0 : Nat) (1 : Nat) (0 : Nat) v_4.snd.fst) [none] [Blk.row (0 : Nat) v_4.snd.snd]
    exact hk _ _ (by rw [h1.2.2.2.2, List.take_of_length_le (by omega)]) h1.2.2.1

theorem sputb_ok : Holds Try.prog 44 putB := by
  refine fn_soundB (env := mkEnv M1) (tab_ok M1_ok) Try.func44 Try.call44 (fun args B k h => ?_) (by decide)
  unfold putB at h
  dsimp only at h
  split at h
  · rename_i q l xs
    exact ⟨by kernel_rfl, putBLoops q l xs, fun _ _ => none, .cast (by kernel_rfl) (sputb_vc q l xs h.1 k h.2)⟩
  · exact h.elim
theorem sput_ok : Holds Try.prog 44 putX := put_up sputn_ok sputb_ok
set_option maxHeartbeats 2000000 in
theorem one_vc (m : Int) (b : List UInt8) (bad : Bool) (hm : (0 : Int) ≤ m ∧ m ≤ (9223372036854775807 : Int)) (hb : b.length ≤ (1000000 : Nat)) (k : AV → List (Option Blk) → List Blk → Prop) (hk : ∀ (v : Int) (r : List UInt8) (bd : Bool), v = oneV m b → r = oneR m b → bd = (bad || oneB m b) → (0 : Int) ≤ v ∧ v ≤ m → r.length ≤ b.length → k (AV.int IntKind.i64 v) [some (Blk.cells [AV.sl (0 : Nat) r, AV.bool bd])] []) :
  (b.length ≤ (1000000 : Nat)) ∧
  ∀ (a_1 : Int),
  ∀ (b_2 : Int),
  ∀ (c_3 : Int),
  (a_1 = (↑(readG (0 : Nat) (0 : Nat) b).fst : Int)) →
  (b_2 = (↑(readG (0 : Nat) (0 : Nat) b).snd.fst : Int)) →
  (c_3 = (↑(readG (0 : Nat) (0 : Nat) b).snd.snd : Int)) →
  ((0 : Int) ≤ a_1 ∧ a_1 ≤ (18446744073709551615 : Int)) →
  ((0 : Int) ≤ b_2 ∧ b_2 ≤ (10 : Int)) →
  (c_3 = (0 : Int) ∨ c_3 = (8 : Int)) →
  ∀ (n10 : Int),
  (n10 = IntKind.u64.wrap m) →
  br (bif c_3 != (0 : Int) then true else decide (a_1 > n10))
   ((k (AV.int IntKind.i64 (0 : Int)) [some (Blk.cells [AV.sl (0 : Nat) b, AV.bool true])] []))
   (((0 : Int) ≤ b_2) ∧
    (b_2 ≤ (↑b.length : Int)) ∧
    ∀ (n12 : Int),
    (n12 = IntKind.i64.wrap a_1) →
    ((-9223372036854775808 : Int) ≤ n12 ∧ n12 ≤ (9223372036854775807 : Int)) →
    (k (AV.int IntKind.i64 n12) [some (Blk.cells [AV.sl (0 : Nat) (List.drop b_2.toNat b), AV.bool bad])] [])) := by
  refine ⟨by assumption, ?_⟩ -- b.length ≤ (1000000 : Nat)
  intro a_1
  intro b_2
  intro c_3
  intro h1 -- a_1 = (↑(readG (0 : Nat) (0 : Nat) b).fst : Int)
  intro h2 -- b_2 = (↑(readG (0 : Nat) (0 : Nat) b).snd.fst : Int)
  intro h3 -- c_3 = (↑(readG (0 : Nat) (0 : Nat) b).snd.snd : Int)
  intro ⟨a4, b4⟩ -- (0 : Int) ≤ a_1 ∧ a_1 ≤ (18446744073709551615 : Int)
  intro ⟨a5, b5⟩ -- (0 : Int) ≤ b_2 ∧ b_2 ≤ (10 : Int)
  intro h6 -- c_3 = (0 : Int) ∨ c_3 = (8 : Int)
  intro n10
  intro q10 -- n10 = IntKind.u64.wrap m
  rw [IntKind.wrap_u64] at q10
  refine br_intro (fun c7 => ?_) (fun c7 => ?_) -- bif c_3 != (0 : Int) then true else decide (a_1 > n10)
  · -- yes
    simp at c7 -- ¬c_3 = (0 : Int) ∨ n10 < a_1
    -- k (AV.int IntKind.i64 (0 : Int)) [some (Blk.cells [AV.sl (0 : Nat) b, AV.bool true])] []
    have C : ¬ ((readG 0 0 b).2.2 = 0 ∧ ((readG 0 0 b).1 : Int) ≤ m) := by omega
    exact hk 0 b true (by unfold oneV; rw [if_neg C]) (by unfold oneR; rw [if_neg C]) (by unfold oneB; rw [if_neg C]; simp) ⟨by omega, by omega⟩ (Nat.le_refl _)
  · -- no
    simp at c7 -- c_3 = (0 : Int) ∧ a_1 ≤ n10
    refine ⟨by assumption, ?_⟩ -- (0 : Int) ≤ b_2
    have h8 : b_2 ≤ (↑b.length : Int) := by
      rcases read_only b with R | ⟨m', j, R, r1, r2, r3, r4⟩ <;> rw [R] at h2 h3 <;> dsimp only at h2 h3 <;> omega
    refine ⟨h8, ?_⟩
    intro n12
    intro q12 -- n12 = IntKind.i64.wrap a_1
    rw [IntKind.wrap_i64] at q12
    intro ⟨l12, u12⟩ -- (-9223372036854775808 : Int) ≤ n12 ∧ n12 ≤ (9223372036854775807 : Int)
    -- k (AV.int IntKind.i64 n12) [some (Blk.cells [AV.sl (0 : Nat) (List.drop b_2.toNat b), AV.bool bad])] []
    have C : (readG 0 0 b).2.2 = 0 ∧ ((readG 0 0 b).1 : Int) ≤ m := by omega
    exact hk n12 _ bad (by unfold oneV; rw [if_pos C]; omega) (by unfold oneR; rw [if_pos C]; congr 1; omega) (by unfold oneB; rw [if_pos C]; simp) ⟨by omega, by omega⟩ (by rw [List.length_drop]; omega)

theorem one_ok : Holds Try.prog 40 oneS := by
  refine fn_soundB (env := mkEnv M1) (tab_ok M1_ok) Try.func40 Try.call40 (fun args B k h => ?_) (by decide)
  unfold oneS at h
  dsimp only at h
  split at h
  · rename_i m b bad
    exact ⟨by kernel_rfl, fun _ _ => none, fun _ _ => none, .cast (by kernel_rfl) (one_vc m b bad h.1 h.2.1 k h.2.2)⟩
  · exact h.elim
set_option maxHeartbeats 2000000 in
theorem rone_vc (m : Int) (b : List UInt8) (bad : Bool) (hm : (0 : Int) ≤ m ∧ m ≤ (9223372036854775807 : Int)) (hb : b.length ≤ (1000000 : Nat)) (k : AV → List (Option Blk) → List Blk → Prop) (hk : ∀ (v : Int) (r : List UInt8) (bd : Bool), v = oneV m b → r = oneR m b → bd = (bad || oneB m b) → (0 : Int) ≤ v ∧ v ≤ m → r.length ≤ b.length → k (AV.int IntKind.i64 v) [some (Blk.cells [AV.sl (0 : Nat) r, AV.bool bd])] []) :
  (b.length ≤ (1000000 : Nat)) ∧
  ∀ (a_1 : Int),
  ∀ (b_2 : Int),
  ∀ (c_3 : Int),
  (a_1 = (↑(readG (0 : Nat) (0 : Nat) b).fst : Int)) →
  (b_2 = (↑(readG (0 : Nat) (0 : Nat) b).snd.fst : Int)) →
  (c_3 = (↑(readG (0 : Nat) (0 : Nat) b).snd.snd : Int)) →
  ((0 : Int) ≤ a_1 ∧ a_1 ≤ (18446744073709551615 : Int)) →
  ((0 : Int) ≤ b_2 ∧ b_2 ≤ (10 : Int)) →
  (c_3 = (0 : Int) ∨ c_3 = (8 : Int)) →
  ∀ (n10 : Int),
  (n10 = IntKind.u64.wrap m) →
  br (bif c_3 != (0 : Int) then true else decide (a_1 > n10))
   ((k (AV.int IntKind.i64 (0 : Int)) [some (Blk.cells [AV.sl (0 : Nat) b, AV.bool true])] []))
   (((0 : Int) ≤ b_2) ∧
    (b_2 ≤ (↑b.length : Int)) ∧
    ∀ (n12 : Int),
    (n12 = IntKind.i64.wrap a_1) →
    ((-9223372036854775808 : Int) ≤ n12 ∧ n12 ≤ (9223372036854775807 : Int)) →
    (k (AV.int IntKind.i64 n12) [some (Blk.cells [AV.sl (0 : Nat) (List.drop b_2.toNat b), AV.bool bad])] [])) := by
  refine ⟨by assumption, ?_⟩ -- b.length ≤ (1000000 : Nat)
  intro a_1
  intro b_2
  intro c_3
  intro h1 -- a_1 = (↑(readG (0 : Nat) (0 : Nat) b).fst : Int)
  intro h2 -- b_2 = (↑(readG (0 : Nat) (0 : Nat) b).snd.fst : Int)
  intro h3 -- c_3 = (↑(readG (0 : Nat) (0 : Nat) b).snd.snd : Int)
  intro ⟨a4, b4⟩ -- (0 : Int) ≤ a_1 ∧ a_1 ≤ (18446744073709551615 : Int)
  intro ⟨a5, b5⟩ -- (0 : Int) ≤ b_2 ∧ b_2 ≤ (10 : Int)
  intro h6 -- c_3 = (0 : Int) ∨ c_3 = (8 : Int)
  intro n10
  intro q10 -- n10 = IntKind.u64.wrap m
  rw [IntKind.wrap_u64] at q10
  refine br_intro (fun c7 => ?_) (fun c7 => ?_) -- bif c_3 != (0 : Int) then true else decide (a_1 > n10)
  · -- yes
    simp at c7 -- ¬c_3 = (0 : Int) ∨ n10 < a_1
    -- k (AV.int IntKind.i64 (0 : Int)) [some (Blk.cells [AV.sl (0 : Nat) b, AV.bool true])] []
    have C : ¬ ((readG 0 0 b).2.2 = 0 ∧ ((readG 0 0 b).1 : Int) ≤ m) := by omega
    exact hk 0 b true (by unfold oneV; rw [if_neg C]) (by unfold oneR; rw [if_neg C]) (by unfold oneB; rw [if_neg C]; simp) ⟨by omega, by omega⟩ (Nat.le_refl _)
  · -- no
    simp at c7 -- c_3 = (0 : Int) ∧ a_1 ≤ n10
    refine ⟨by assumption, ?_⟩ -- (0 : Int) ≤ b_2
    have h8 : b_2 ≤ (↑b.length : Int) := by
      rcases read_only b with R | ⟨m', j, R, r1, r2, r3, r4⟩ <;> rw [R] at h2 h3 <;> dsimp only at h2 h3 <;> omega
    refine ⟨h8, ?_⟩
    intro n12
    intro q12 -- n12 = IntKind.i64.wrap a_1
    rw [IntKind.wrap_i64] at q12
    intro ⟨l12, u12⟩ -- (-9223372036854775808 : Int) ≤ n12 ∧ n12 ≤ (9223372036854775807 : Int)
    -- k (AV.int IntKind.i64 n12) [some (Blk.cells [AV.sl (0 : Nat) (List.drop b_2.toNat b), AV.bool bad])] []
    have C : (readG 0 0 b).2.2 = 0 ∧ ((readG 0 0 b).1 : Int) ≤ m := by omega
    exact hk n12 _ bad (by unfold oneV; rw [if_pos C]; omega) (by unfold oneR; rw [if_pos C]; congr 1; omega) (by unfold oneB; rw [if_pos C]; simp) ⟨by omega, by omega⟩ (by rw [List.length_drop]; omega)

theorem rone_ok : Holds Try.prog 42 oneS := by
  refine fn_soundB (env := mkEnv M1) (tab_ok M1_ok) Try.func42 Try.call42 (fun args B k h => ?_) (by decide)
  unfold oneS at h
  dsimp only at h
  split at h
  · rename_i m b bad
    exact ⟨by kernel_rfl, fun _ _ => none, fun _ _ => none, .cast (by kernel_rfl) (rone_vc m b bad h.1 h.2.1 k h.2.2)⟩
  · exact h.elim
set_option maxHeartbeats 2000000 in
theorem ticks_vc (n : Int) (n0 : (-9223372036854775808 : Int) ≤ n) (n1 : n ≤ (9223372036854775807 : Int)) (k : AV → List (Option Blk) → List Blk → Prop) (hk : ∀ (r : Bool), (r = true ↔ (1 : Int) ≤ n ∧ n ≤ (1048576 : Int)) → k (AV.bool r) [] []) :
  ∀ (n1 : Int),
  (n1 = (↑[n].length : Int)) →
  ((-9223372036854775808 : Int) ≤ n1 ∧ n1 ≤ (9223372036854775807 : Int)) →
  (
   ∃ (v : Nat),
   ([n] = [n]) ∧
   (n1 = (1 : Int)) ∧
   ((0 : Int) = (↑v : Int)) ∧
   (v ≤ (1 : Nat)) ∧
   ((v = (1 : Nat)) →
   ((1 : Int) ≤ n) ∧
   (n ≤ (1048576 : Int)))) ∧
  ∀ (v_4 : Nat),
  (v_4 ≤ (1 : Nat) ∧ (v_4 = (1 : Nat) → (1 : Int) ≤ n ∧ n ≤ (1048576 : Int))) →
  br (decide ((↑v_4 : Int) < (1 : Int)))
   (((0 : Int) ≤ (↑v_4 : Int)) ∧
    ((↑v_4 : Int) < (↑[n].length : Int)) ∧
    ∀ (n6 : Int),
    (n6 = [n].getD (↑v_4 : Int).toNat (0 : Int)) →
    ((-9223372036854775808 : Int) ≤ n6 ∧ n6 ≤ (9223372036854775807 : Int)) →
    ∀ (r_9 : Bool),
    (r_9 = true ↔ (1 : Int) ≤ n6 ∧ n6 ≤ (1048576 : Int)) →
    br (!r_9)
     ((k (AV.bool false) [] []))
     (∀ (n11 : Int),
      (n11 = IntKind.i64.wrap ((↑v_4 : Int) + (1 : Int))) →
      ((-9223372036854775808 : Int) ≤ n11 ∧ n11 ≤ (9223372036854775807 : Int)) →
      ∃ (v' : Nat),
      ([n] = [n]) ∧
      ((1 : Int) = (1 : Int)) ∧
      (n11 = (↑v' : Int)) ∧
      (
       (v' ≤ (1 : Nat)) ∧
       ((v' = (1 : Nat)) →
       ((1 : Int) ≤ n) ∧
       (n ≤ (1048576 : Int)))) ∧
      ((1 : Nat) - v' < (1 : Nat) - v_4)))
   ((k (AV.bool true) [] [])) := by
  intro n1
  intro q1 -- n1 = (↑[n].length : Int)
  intro ⟨l1, u1⟩ -- (-9223372036854775808 : Int) ≤ n1 ∧ n1 ≤ (9223372036854775807 : Int)
  refine ⟨?_, ?_⟩
  · -- left
    refine ⟨Int.toNat (0 : Int), ?_⟩
    refine ⟨by first | with_reducible rfl | rfl, ?_⟩ -- [n] = [n]
    refine ⟨by show n1 = (1 : Int); assumption, ?_⟩ -- n1 = (1 : Int)
    refine ⟨by show (0 : Int) = (↑(Int.toNat (0 : Int)) : Int); omega, ?_⟩ -- (0 : Int) = (↑(Int.toNat (0 : Int)) : Int)
    refine ⟨by show Int.toNat (0 : Int) ≤ (1 : Nat); omega, ?_⟩ -- Int.toNat (0 : Int) ≤ (1 : Nat)
    intro h1 -- Int.toNat (0 : Int) = (1 : Nat)
    refine ⟨by show (1 : Int) ≤ n; omega, ?_⟩ -- (1 : Int) ≤ n
    exact by show n ≤ (1048576 : Int); omega -- n ≤ (1048576 : Int)
  intro v_4
  intro h2 -- v_4 ≤ (1 : Nat) ∧ (v_4 = (1 : Nat) → (1 : Int) ≤ n ∧ n ≤ (1048576 : Int))
  refine brd (fun c3 => ?_) (fun c3 => ?_) -- decide ((↑v_4 : Int) < (1 : Int))
  · -- yes
    refine ⟨by first | omega | (dsimp only; omega), ?_⟩ -- (0 : Int) ≤ (↑v_4 : Int)
    refine ⟨by assumption, ?_⟩ -- (↑v_4 : Int) < (↑[n].length : Int)
    intro n6
    intro q6 -- n6 = [n].getD (↑v_4 : Int).toNat (0 : Int)
    intro ⟨l6, u6⟩ -- (-9223372036854775808 : Int) ≤ n6 ∧ n6 ≤ (9223372036854775807 : Int)
    intro r_9
    intro h4 -- r_9 = true ↔ (1 : Int) ≤ n6 ∧ n6 ≤ (1048576 : Int)
    refine br_intro (fun c5 => ?_) (fun c5 => ?_) -- !r_9
    · -- yes
      simp at c5 -- r_9 = false
      -- k (AV.bool false) [] []
      have e6 : n6 = n := by rw [q6, show v_4 = 0 by omega]; rfl
      rw [e6] at h4
      refine hk false ⟨fun c => (by cases c), fun c => ?_⟩
      rw [h4.2 c] at c5; cases c5
    · -- no
      simp at c5 -- r_9 = true
      intro n11
      intro q11 -- n11 = IntKind.i64.wrap ((↑v_4 : Int) + (1 : Int))
      rw [IntKind.wrap_i64] at q11
      intro ⟨l11, u11⟩ -- (-9223372036854775808 : Int) ≤ n11 ∧ n11 ≤ (9223372036854775807 : Int)
      refine ⟨n11.toNat, ?_⟩
      refine ⟨by first | with_reducible rfl | rfl, ?_⟩ -- [n] = [n]
      refine ⟨by first | with_reducible rfl | rfl, ?_⟩ -- (1 : Int) = (1 : Int)
      refine ⟨by show n11 = (↑n11.toNat : Int); omega, ?_⟩ -- n11 = (↑n11.toNat : Int)
      refine ⟨?_, ?_⟩
      · -- left
        refine ⟨by show n11.toNat ≤ (1 : Nat); omega, ?_⟩ -- n11.toNat ≤ (1 : Nat)
        intro h6 -- n11.toNat = (1 : Nat)
        have h7 : (1 : Int) ≤ n := by
          have e6 : n6 = n := by rw [q6, show v_4 = 0 by omega]; rfl
          rw [e6] at h4
          exact (h4.1 c5).1
        refine ⟨h7, ?_⟩
        -- n ≤ (1048576 : Int)
        have e6 : n6 = n := by rw [q6, show v_4 = 0 by omega]; rfl
        rw [e6] at h4
        exact (h4.1 c5).2
      exact by show (1 : Nat) - n11.toNat < (1 : Nat) - v_4; omega -- (1 : Nat) - n11.toNat < (1 : Nat) - v_4
  · -- no
    -- k (AV.bool true) [] []
    exact hk true ⟨fun _ => h2.2 (by omega), fun _ => rfl⟩

theorem ticks_ok : Holds Try.prog 45 ticksS := by
  refine fn_sound (env := mkEnv M1) (tab_ok M1_ok) Try.func45 Try.call45 fun args k h => ?_
  match args, h with
  | [.sl 1 [n]], h => exact ⟨by kernel_rfl, ticksLoops n, fun _ _ => none, .cast (by kernel_rfl) (ticks_vc n h.1.1 h.1.2 k h.2)⟩
set_option maxHeartbeats 2000000 in
theorem sms05_vc (l : List Int) (hl : l.length ≤ (1000000 : Nat)) (k : AV → List (Option Blk) → List Blk → Prop) (hk : ∀ (ys : List UInt8) (n : Nat), ys = sms l → ys.length = n → k (AV.row (0 : Nat) (0 : Nat) (0 : Nat) n) [] [Blk.row (0 : Nat) ys]) :
  (
   ∃ (v : Nat × Nat × List UInt8),
   (l = l) ∧
   ((0 : Nat) = (0 : Nat)) ∧
   ((0 : Nat) = v.snd.fst) ∧
   ((0 : Int) = (↑v.fst : Int)) ∧
   ([] = v.snd.snd) ∧
   (v.fst ≤ l.length) ∧
   (l.length ≤ (1000000 : Nat)) ∧
   (v.snd.snd.length = v.snd.fst) ∧
   (v.snd.fst ≤ (10 : Nat) * v.fst) ∧
   (v.snd.snd = sms (List.take v.fst l))) ∧
  ∀ (v_1 : Nat × Nat × List UInt8),
  (v_1.fst ≤ l.length ∧ l.length ≤ (1000000 : Nat) ∧ v_1.snd.snd.length = v_1.snd.fst ∧ v_1.snd.fst ≤ (10 : Nat) * v_1.fst ∧ v_1.snd.snd = sms (List.take v_1.fst l)) →
  ∀ (n3 : Int),
  (n3 = (↑l.length : Int)) →
  ((-9223372036854775808 : Int) ≤ n3 ∧ n3 ≤ (9223372036854775807 : Int)) →
  br (decide ((↑v_1.fst : Int) < n3))
   (((0 : Int) ≤ (↑v_1.fst : Int)) ∧
    ((↑v_1.fst : Int) < (↑l.length : Int)) ∧
    ∀ (n6 : Int),
    (n6 = l.getD (↑v_1.fst : Int).toNat (0 : Int)) →
    ((-9223372036854775808 : Int) ≤ n6 ∧ n6 ≤ (9223372036854775807 : Int)) →
    ∀ (n9 : Int),
    (n9 = IntKind.u64.wrap n6) →
    ((0 : Int) ≤ n9 ∧ n9 ≤ (18446744073709551615 : Int)) →
    (
     ((0 : Int) ≤ n9) ∧
     (n9 ≤ (18446744073709551615 : Int))) ∧
    ∀ (ys_12 : List UInt8),
    ∀ (q_13 : Nat),
    (ys_12 = smallL n9.toNat) →
    (ys_12.length = q_13) →
    (q_13 ≤ (10 : Nat)) →
    ((v_1.snd.fst + q_13) * (1 : Nat) ≤ (140737488355328 : Nat)) ∧
    ∀ (z17 : List UInt8),
    (z17 = List.take v_1.snd.fst v_1.snd.snd ++ List.take q_13 (List.drop (0 : Nat) ys_12)) →
    ∀ (n19 : Int),
    (n19 = IntKind.i64.wrap ((↑v_1.fst : Int) + (1 : Int))) →
    ((-9223372036854775808 : Int) ≤ n19 ∧ n19 ≤ (9223372036854775807 : Int)) →
    ∃ (v' : Nat × Nat × List UInt8),
    (l = l) ∧
    ((0 : Nat) = (0 : Nat)) ∧
    (v_1.snd.fst + q_13 = v'.snd.fst) ∧
    (n19 = (↑v'.fst : Int)) ∧
    (z17 = v'.snd.snd) ∧
    (
     (v'.fst ≤ l.length) ∧
     (l.length ≤ (1000000 : Nat)) ∧
     (v'.snd.snd.length = v'.snd.fst) ∧
     (v'.snd.fst ≤ (10 : Nat) * v'.fst) ∧
     (v'.snd.snd = sms (List.take v'.fst l))) ∧
    (l.length - v'.fst < l.length - v_1.fst))
   ((k (AV.row (0 : Nat) (0 : Nat) (0 : Nat) v_1.snd.fst) [] [Blk.row (0 : Nat) v_1.snd.snd])) := by
  refine ⟨?_, ?_⟩
  · -- left
    refine ⟨(Int.toNat (0 : Int), (0 : Nat), []), ?_⟩
    refine ⟨by first | with_reducible rfl | rfl, ?_⟩ -- l = l
    refine ⟨by first | with_reducible rfl | rfl, ?_⟩ -- (0 : Nat) = (0 : Nat)
    refine ⟨by first | with_reducible rfl | rfl, ?_⟩ -- (0 : Nat) = (0 : Nat)
    refine ⟨by show (0 : Int) = (↑(Int.toNat (0 : Int)) : Int); omega, ?_⟩ -- (0 : Int) = (↑(Int.toNat (0 : Int)) : Int)
    refine ⟨by first | with_reducible rfl | rfl, ?_⟩ -- [] = []
    refine ⟨by show Int.toNat (0 : Int) ≤ l.length; omega, ?_⟩ -- Int.toNat (0 : Int) ≤ l.length
    refine ⟨by show l.length ≤ (1000000 : Nat); assumption, ?_⟩ -- l.length ≤ (1000000 : Nat)
    refine ⟨by first | with_reducible rfl | rfl, ?_⟩ -- (0 : Nat) = (0 : Nat)
    refine ⟨by show (0 : Nat) ≤ (10 : Nat) * Int.toNat (0 : Int); omega, ?_⟩ -- (0 : Nat) ≤ (10 : Nat) * Int.toNat (0 : Int)
    exact by rfl -- [] = sms (List.take (Int.toNat (0 : Int)) l)
  intro v_1
  intro h1 -- v_1.fst ≤ l.length ∧ l.length ≤ (1000000 : Nat) ∧ v_1.snd.snd.length = v_1.snd.fst ∧ v_1.snd.fst ≤ (10 : Nat) * v_1.fst ∧ v_1.snd.snd = sms (List.take v_1.fst l)
  intro n3
  intro q3 -- n3 = (↑l.length : Int)
  intro ⟨l3, u3⟩ -- (-9223372036854775808 : Int) ≤ n3 ∧ n3 ≤ (9223372036854775807 : Int)
  refine brd (fun c2 => ?_) (fun c2 => ?_) -- decide ((↑v_1.fst : Int) < n3)
  · -- yes
    refine ⟨by first | omega | (dsimp only; omega), ?_⟩ -- (0 : Int) ≤ (↑v_1.fst : Int)
    refine ⟨by first | omega | (dsimp only; omega), ?_⟩ -- (↑v_1.fst : Int) < (↑l.length : Int)
    intro n6
    intro q6 -- n6 = l.getD (↑v_1.fst : Int).toNat (0 : Int)
    intro ⟨l6, u6⟩ -- (-9223372036854775808 : Int) ≤ n6 ∧ n6 ≤ (9223372036854775807 : Int)
    intro n9
    intro q9 -- n9 = IntKind.u64.wrap n6
    rw [IntKind.wrap_u64] at q9
    intro ⟨l9, u9⟩ -- (0 : Int) ≤ n9 ∧ n9 ≤ (18446744073709551615 : Int)
    refine ⟨by exact ⟨by assumption, by assumption⟩, ?_⟩ -- (0 : Int) ≤ n9 ∧ n9 ≤ (18446744073709551615 : Int)
    intro ys_12
    intro q_13
    intro h3 -- ys_12 = smallL n9.toNat
    intro h4 -- ys_12.length = q_13
    intro h5 -- q_13 ≤ (10 : Nat)
    refine ⟨by first | omega | (dsimp only; omega), ?_⟩ -- (v_1.snd.fst + q_13) * (1 : Nat) ≤ (140737488355328 : Nat)
    intro z17
    intro qz17 -- z17 = List.take v_1.snd.fst v_1.snd.snd ++ List.take q_13 (List.drop (0 : Nat) ys_12)
    intro n19
    intro q19 -- n19 = IntKind.i64.wrap ((↑v_1.fst : Int) + (1 : Int))
    rw [IntKind.wrap_i64] at q19
    intro ⟨l19, u19⟩ -- (-9223372036854775808 : Int) ≤ n19 ∧ n19 ≤ (9223372036854775807 : Int)
    refine ⟨(n19.toNat, v_1.snd.fst + q_13, z17), ?_⟩
    refine ⟨by first | with_reducible rfl | rfl, ?_⟩ -- l = l
    refine ⟨by first | with_reducible rfl | rfl, ?_⟩ -- (0 : Nat) = (0 : Nat)
    refine ⟨by first | with_reducible rfl | rfl, ?_⟩ -- v_1.snd.fst + q_13 = v_1.snd.fst + q_13
    refine ⟨by show n19 = (↑n19.toNat : Int); omega, ?_⟩ -- n19 = (↑n19.toNat : Int)
    refine ⟨by first | with_reducible rfl | rfl, ?_⟩ -- z17 = z17
    refine ⟨?_, ?_⟩
    · -- left
      refine ⟨by show n19.toNat ≤ l.length; omega, ?_⟩ -- n19.toNat ≤ l.length
      refine ⟨by show l.length ≤ (1000000 : Nat); assumption, ?_⟩ -- l.length ≤ (1000000 : Nat)
      have h6 : z17.length = v_1.snd.fst + q_13 := by
        rw [qz17, List.length_append, List.length_take, List.length_take, List.length_drop]; omega
      refine ⟨h6, ?_⟩
      refine ⟨by show v_1.snd.fst + q_13 ≤ (10 : Nat) * n19.toNat; omega, ?_⟩ -- v_1.snd.fst + q_13 ≤ (10 : Nat) * n19.toNat
      -- z17 = sms (List.take n19.toNat l)
      have se : ys_12 = smI (l.getD v_1.fst 0) := by unfold smI; rw [h3, q9, q6, Int.toNat_natCast]
      rw [show n19.toNat = v_1.fst + 1 by omega, sms_step (by omega), ← h1.2.2.2.2, qz17, ← h4, List.drop_zero, List.take_length, List.take_of_length_le (by omega), se]
    exact by show l.length - n19.toNat < l.length - v_1.fst; omega -- l.length - n19.toNat < l.length - v_1.fst
  · -- no
    -- k (AV.row (0 : Nat) (0 : Nat) (0 : Nat) v_1.snd.fst) [] [Blk.row (0 : Nat) v_1.snd.snd]
    exact hk _ _ (by rw [h1.2.2.2.2, List.take_of_length_le (by omega)]) h1.2.2.1

theorem sms05_ok : Holds Try.prog 48 smsS := by
  refine fn_sound (env := mkEnv M1) (tab_ok M1_ok) Try.func48 Try.call48 fun args k h => ?_
  match args, h with
  | [.sl 1 l], h => exact ⟨by kernel_rfl, smsLoops l, fun _ _ => none, .cast (by kernel_rfl) (sms05_vc l h.1 k h.2)⟩
set_option maxHeartbeats 2000000 in
theorem sms20_vc (l : List Int) (hl : l.length ≤ (1000000 : Nat)) (k : AV → List (Option Blk) → List Blk → Prop) (hk : ∀ (ys : List UInt8) (n : Nat), ys = sms l → ys.length = n → k (AV.row (0 : Nat) (0 : Nat) (0 : Nat) n) [] [Blk.row (0 : Nat) ys]) :
  (
   ∃ (v : Nat × Nat × List UInt8),
   (l = l) ∧
   ((0 : Nat) = (0 : Nat)) ∧
   ((0 : Nat) = v.snd.fst) ∧
   ((0 : Int) = (↑v.fst : Int)) ∧
   ([] = v.snd.snd) ∧
   (v.fst ≤ l.length) ∧
   (l.length ≤ (1000000 : Nat)) ∧
   (v.snd.snd.length = v.snd.fst) ∧
   (v.snd.fst ≤ (10 : Nat) * v.fst) ∧
   (v.snd.snd = sms (List.take v.fst l))) ∧
  ∀ (v_1 : Nat × Nat × List UInt8),
  (v_1.fst ≤ l.length ∧ l.length ≤ (1000000 : Nat) ∧ v_1.snd.snd.length = v_1.snd.fst ∧ v_1.snd.fst ≤ (10 : Nat) * v_1.fst ∧ v_1.snd.snd = sms (List.take v_1.fst l)) →
  ∀ (n3 : Int),
  (n3 = (↑l.length : Int)) →
  ((-9223372036854775808 : Int) ≤ n3 ∧ n3 ≤ (9223372036854775807 : Int)) →
  br (decide ((↑v_1.fst : Int) < n3))
   (((0 : Int) ≤ (↑v_1.fst : Int)) ∧
    ((↑v_1.fst : Int) < (↑l.length : Int)) ∧
    ∀ (n6 : Int),
    (n6 = l.getD (↑v_1.fst : Int).toNat (0 : Int)) →
    ((-9223372036854775808 : Int) ≤ n6 ∧ n6 ≤ (9223372036854775807 : Int)) →
    ∀ (n9 : Int),
    (n9 = IntKind.u64.wrap n6) →
    ((0 : Int) ≤ n9 ∧ n9 ≤ (18446744073709551615 : Int)) →
    (
     ((0 : Int) ≤ n9) ∧
     (n9 ≤ (18446744073709551615 : Int))) ∧
    ∀ (ys_12 : List UInt8),
    ∀ (q_13 : Nat),
    (ys_12 = smallL n9.toNat) →
    (ys_12.length = q_13) →
    (q_13 ≤ (10 : Nat)) →
    ((v_1.snd.fst + q_13) * (1 : Nat) ≤ (140737488355328 : Nat)) ∧
    ∀ (z17 : List UInt8),
    (z17 = List.take v_1.snd.fst v_1.snd.snd ++ List.take q_13 (List.drop (0 : Nat) ys_12)) →
    ∀ (n19 : Int),
    (n19 = IntKind.i64.wrap ((↑v_1.fst : Int) + (1 : Int))) →
    ((-9223372036854775808 : Int) ≤ n19 ∧ n19 ≤ (9223372036854775807 : Int)) →
    ∃ (v' : Nat × Nat × List UInt8),
    (l = l) ∧
    ((0 : Nat) = (0 : Nat)) ∧
    (v_1.snd.fst + q_13 = v'.snd.fst) ∧
    (n19 = (↑v'.fst : Int)) ∧
    (z17 = v'.snd.snd) ∧
    (
     (v'.fst ≤ l.length) ∧
     (l.length ≤ (1000000 : Nat)) ∧
     (v'.snd.snd.length = v'.snd.fst) ∧
     (v'.snd.fst ≤ (10 : Nat) * v'.fst) ∧
     (v'.snd.snd = sms (List.take v'.fst l))) ∧
    (l.length - v'.fst < l.length - v_1.fst))
   ((k (AV.row (0 : Nat) (0 : Nat) (0 : Nat) v_1.snd.fst) [] [Blk.row (0 : Nat) v_1.snd.snd])) := by
  refine ⟨?_, ?_⟩
  · -- left
    refine ⟨(Int.toNat (0 : Int), (0 : Nat), []), ?_⟩
    refine ⟨by first | with_reducible rfl | rfl, ?_⟩ -- l = l
    refine ⟨by first | with_reducible rfl | rfl, ?_⟩ -- (0 : Nat) = (0 : Nat)
    refine ⟨by first | with_reducible rfl | rfl, ?_⟩ -- (0 : Nat) = (0 : Nat)
    refine ⟨by show (0 : Int) = (↑(Int.toNat (0 : Int)) : Int); omega, ?_⟩ -- (0 : Int) = (↑(Int.toNat (0 : Int)) : Int)
    refine ⟨by first | with_reducible rfl | rfl, ?_⟩ -- [] = []
    refine ⟨by show Int.toNat (0 : Int) ≤ l.length; omega, ?_⟩ -- Int.toNat (0 : Int) ≤ l.length
    refine ⟨by show l.length ≤ (1000000 : Nat); assumption, ?_⟩ -- l.length ≤ (1000000 : Nat)
    refine ⟨by first | with_reducible rfl | rfl, ?_⟩ -- (0 : Nat) = (0 : Nat)
    refine ⟨by show (0 : Nat) ≤ (10 : Nat) * Int.toNat (0 : Int); omega, ?_⟩ -- (0 : Nat) ≤ (10 : Nat) * Int.toNat (0 : Int)
    exact by rfl -- [] = sms (List.take (Int.toNat (0 : Int)) l)
  intro v_1
  intro h1 -- v_1.fst ≤ l.length ∧ l.length ≤ (1000000 : Nat) ∧ v_1.snd.snd.length = v_1.snd.fst ∧ v_1.snd.fst ≤ (10 : Nat) * v_1.fst ∧ v_1.snd.snd = sms (List.take v_1.fst l)
  intro n3
  intro q3 -- n3 = (↑l.length : Int)
  intro ⟨l3, u3⟩ -- (-9223372036854775808 : Int) ≤ n3 ∧ n3 ≤ (9223372036854775807 : Int)
  refine brd (fun c2 => ?_) (fun c2 => ?_) -- decide ((↑v_1.fst : Int) < n3)
  · -- yes
    refine ⟨by first | omega | (dsimp only; omega), ?_⟩ -- (0 : Int) ≤ (↑v_1.fst : Int)
    refine ⟨by first | omega | (dsimp only; omega), ?_⟩ -- (↑v_1.fst : Int) < (↑l.length : Int)
    intro n6
    intro q6 -- n6 = l.getD (↑v_1.fst : Int).toNat (0 : Int)
    intro ⟨l6, u6⟩ -- (-9223372036854775808 : Int) ≤ n6 ∧ n6 ≤ (9223372036854775807 : Int)
    intro n9
    intro q9 -- n9 = IntKind.u64.wrap n6
    rw [IntKind.wrap_u64] at q9
    intro ⟨l9, u9⟩ -- (0 : Int) ≤ n9 ∧ n9 ≤ (18446744073709551615 : Int)
    refine ⟨by exact ⟨by assumption, by assumption⟩, ?_⟩ -- (0 : Int) ≤ n9 ∧ n9 ≤ (18446744073709551615 : Int)
    intro ys_12
    intro q_13
    intro h3 -- ys_12 = smallL n9.toNat
    intro h4 -- ys_12.length = q_13
    intro h5 -- q_13 ≤ (10 : Nat)
    refine ⟨by first | omega | (dsimp only; omega), ?_⟩ -- (v_1.snd.fst + q_13) * (1 : Nat) ≤ (140737488355328 : Nat)
    intro z17
    intro qz17 -- z17 = List.take v_1.snd.fst v_1.snd.snd ++ List.take q_13 (List.drop (0 : Nat) ys_12)
    intro n19
    intro q19 -- n19 = IntKind.i64.wrap ((↑v_1.fst : Int) + (1 : Int))
    rw [IntKind.wrap_i64] at q19
    intro ⟨l19, u19⟩ -- (-9223372036854775808 : Int) ≤ n19 ∧ n19 ≤ (9223372036854775807 : Int)
    refine ⟨(n19.toNat, v_1.snd.fst + q_13, z17), ?_⟩
    refine ⟨by first | with_reducible rfl | rfl, ?_⟩ -- l = l
    refine ⟨by first | with_reducible rfl | rfl, ?_⟩ -- (0 : Nat) = (0 : Nat)
    refine ⟨by first | with_reducible rfl | rfl, ?_⟩ -- v_1.snd.fst + q_13 = v_1.snd.fst + q_13
    refine ⟨by show n19 = (↑n19.toNat : Int); omega, ?_⟩ -- n19 = (↑n19.toNat : Int)
    refine ⟨by first | with_reducible rfl | rfl, ?_⟩ -- z17 = z17
    refine ⟨?_, ?_⟩
    · -- left
      refine ⟨by show n19.toNat ≤ l.length; omega, ?_⟩ -- n19.toNat ≤ l.length
      refine ⟨by show l.length ≤ (1000000 : Nat); assumption, ?_⟩ -- l.length ≤ (1000000 : Nat)
      have h6 : z17.length = v_1.snd.fst + q_13 := by
        rw [qz17, List.length_append, List.length_take, List.length_take, List.length_drop]; omega
      refine ⟨h6, ?_⟩
      refine ⟨by show v_1.snd.fst + q_13 ≤ (10 : Nat) * n19.toNat; omega, ?_⟩ -- v_1.snd.fst + q_13 ≤ (10 : Nat) * n19.toNat
      -- z17 = sms (List.take n19.toNat l)
      have se : ys_12 = smI (l.getD v_1.fst 0) := by unfold smI; rw [h3, q9, q6, Int.toNat_natCast]
      rw [show n19.toNat = v_1.fst + 1 by omega, sms_step (by omega), ← h1.2.2.2.2, qz17, ← h4, List.drop_zero, List.take_length, List.take_of_length_le (by omega), se]
    exact by show l.length - n19.toNat < l.length - v_1.fst; omega -- l.length - n19.toNat < l.length - v_1.fst
  · -- no
    -- k (AV.row (0 : Nat) (0 : Nat) (0 : Nat) v_1.snd.fst) [] [Blk.row (0 : Nat) v_1.snd.snd]
    exact hk _ _ (by rw [h1.2.2.2.2, List.take_of_length_le (by omega)]) h1.2.2.1

theorem sms20_ok : Holds Try.prog 38 smsS := by
  refine fn_sound (env := mkEnv M1) (tab_ok M1_ok) Try.func38 Try.call38 fun args k h => ?_
  match args, h with
  | [.sl 1 l], h => exact ⟨by kernel_rfl, smsLoops l, fun _ _ => none, .cast (by kernel_rfl) (sms20_vc l h.1 k h.2)⟩
end Go.Proofs.Ytpkfadgennejnaa

