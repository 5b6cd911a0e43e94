import Derived.Test.YtilbglkpbjamfaaFrN
namespace Go.Proofs.Ytilbglkpbjamfaa
open Go Go.Eng Go.Rw Go.Fr Go.Proofs
set_option linter.unusedVariables false
set_option maxHeartbeats 2000000 in
theorem fframes_vc (l : List Msg) (hl : l.length ≤ (100 : Nat)) (k : AV → List (Option Blk) → List Blk → Prop) (hk : k (AV.tup [AV.nilsl, AV.bool false]) [] [] ∧ (okM l → ∀ (ys : List UInt8) (n : Nat), ys = frs l → ys.length = n → k (AV.tup [AV.row (0 : Nat) (0 : Nat) (0 : Nat) n, AV.bool true]) [] [Blk.row (0 : Nat) ys])) :
  (
   ∃ (v : Nat × List UInt8),
   (l = l) ∧
   ((0 : Nat) = (0 : Nat)) ∧
   ((0 : Nat) = v.snd.length) ∧
   ((0 : Int) = (↑v.fst : Int)) ∧
   ([] = v.snd) ∧
   (v.fst ≤ l.length) ∧
   (l.length ≤ (100 : Nat)) ∧
   (v.snd = frs (List.take v.fst l)) ∧
   (okM (List.take v.fst l)) ∧
   (v.snd.length ≤ (1100 : Nat) * v.fst)) ∧
  ∀ (v_1 : Nat × List UInt8),
  (v_1.fst ≤ l.length ∧ l.length ≤ (100 : Nat) ∧ v_1.snd = frs (List.take v_1.fst l) ∧ okM (List.take v_1.fst l) ∧ v_1.snd.length ≤ (1100 : Nat) * v_1.fst) →
  ∀ (n3 : Int),
  (n3 = (↑l.length : Int)) →
  ((-9223372036854775808 : Int) ≤ n3 ∧ n3 ≤ (9223372036854775807 : Int)) →
  br (decide ((↑v_1.fst : Int) < n3))
   (((0 : Int) ≤ (↑v_1.fst : Int)) ∧
    ((↑v_1.fst : Int) < (↑l.length : Int)) ∧
    (
     ((0 : Int) ≤ (↑(l.getD (↑v_1.fst : Int).toNat (dflt (8 : Nat))).kind.toNat : Int)) ∧
     ((↑(l.getD (↑v_1.fst : Int).toNat (dflt (8 : Nat))).kind.toNat : Int) ≤ (255 : Int))) ∧
    (
     ((0 : Int) ≤ (↑(l.getD (↑v_1.fst : Int).toNat (dflt (8 : Nat))).seq.toNat : Int)) ∧
     ((↑(l.getD (↑v_1.fst : Int).toNat (dflt (8 : Nat))).seq.toNat : Int) ≤ (4294967295 : Int))) ∧
    (
     ((512 : Nat) < (l.getD (↑v_1.fst : Int).toNat (dflt (8 : Nat))).body.length) →
     ∀ (n7 : Int),
     (n7 = (↑v_1.snd.length : Int)) →
     (k (AV.tup [AV.nilsl, AV.bool false]) [] [])) ∧
    (((l.getD (↑v_1.fst : Int).toNat (dflt (8 : Nat))).body.length ≤ (512 : Nat)) →
    ∀ (ys_9 : List UInt8),
    ∀ (n_10 : Nat),
    (ys_9 = wr (↑(l.getD (↑v_1.fst : Int).toNat (dflt (8 : Nat))).kind.toNat : Int) (↑(l.getD (↑v_1.fst : Int).toNat (dflt (8 : Nat))).seq.toNat : Int) (l.getD (↑v_1.fst : Int).toNat (dflt (8 : Nat))).body) →
    (ys_9.length = n_10) →
    ∀ (n13 : Int),
    (n13 = (↑v_1.snd.length : Int)) →
    br (bif (0 : Int) != (0 : Int) then true else decide (n13 > (6000 : Int)))
     ((k (AV.tup [AV.nilsl, AV.bool false]) [] []))
     (((v_1.snd.length + n_10) * (1 : Nat) ≤ (140737488355328 : Nat)) ∧
      ∀ (z15 : List UInt8),
      (z15 = List.take v_1.snd.length v_1.snd ++ List.take n_10 (List.drop (0 : Nat) ys_9)) →
      ∀ (n17 : Int),
      (n17 = IntKind.i64.wrap ((↑v_1.fst : Int) + (1 : Int))) →
      ((-9223372036854775808 : Int) ≤ n17 ∧ n17 ≤ (9223372036854775807 : Int)) →
      ∃ (v' : Nat × List UInt8),
      (l = l) ∧
      ((0 : Nat) = (0 : Nat)) ∧
      (v_1.snd.length + n_10 = v'.snd.length) ∧
      (n17 = (↑v'.fst : Int)) ∧
      (z15 = v'.snd) ∧
      (
       (v'.fst ≤ l.length) ∧
       (l.length ≤ (100 : Nat)) ∧
       (v'.snd = frs (List.take v'.fst l)) ∧
       (okM (List.take v'.fst l)) ∧
       (v'.snd.length ≤ (1100 : Nat) * v'.fst)) ∧
      (l.length - v'.fst < l.length - v_1.fst))))
   ((k (AV.tup [AV.row (0 : Nat) (0 : Nat) (0 : Nat) v_1.snd.length, AV.bool true]) [] [Blk.row (0 : Nat) v_1.snd])) := by
  refine ⟨?_, ?_⟩
  · -- left
    refine ⟨(Int.toNat (0 : Int), []), ?_⟩
    refine ⟨by first | with_reducible rfl | rfl, ?_⟩ -- l = l
    refine ⟨by first | with_reducible rfl | rfl, ?_⟩ -- (0 : Nat) = (0 : Nat)
    refine ⟨by first | with_reducible rfl | rfl, ?_⟩ -- (0 : Nat) = (0 : Nat)
    refine ⟨by show (0 : Int) = (↑(Int.toNat (0 : Int)) : Int); omega, ?_⟩ -- (0 : Int) = (↑(Int.toNat (0 : Int)) : Int)
    refine ⟨by first | with_reducible rfl | rfl, ?_⟩ -- [] = []
    refine ⟨by show Int.toNat (0 : Int) ≤ l.length; omega, ?_⟩ -- Int.toNat (0 : Int) ≤ l.length
    refine ⟨by show l.length ≤ (100 : Nat); assumption, ?_⟩ -- l.length ≤ (100 : Nat)
    refine ⟨by rfl, ?_⟩ -- [] = frs (List.take (Int.toNat (0 : Int)) l)
    have h1 : okM (List.take (Int.toNat (0 : Int)) l) := by
      exact ⟨fun m hm => by simp at hm⟩
    refine ⟨h1, ?_⟩
    exact by show (0 : Nat) ≤ (1100 : Nat) * Int.toNat (0 : Int); omega -- (0 : Nat) ≤ (1100 : Nat) * Int.toNat (0 : Int)
  intro v_1
  intro h2 -- v_1.fst ≤ l.length ∧ l.length ≤ (100 : Nat) ∧ v_1.snd = frs (List.take v_1.fst l) ∧ okM (List.take v_1.fst l) ∧ v_1.snd.length ≤ (1100 : Nat) * v_1.fst
  intro n3
  intro q3 -- n3 = (↑l.length : Int)
  intro ⟨l3, u3⟩ -- (-9223372036854775808 : Int) ≤ n3 ∧ n3 ≤ (9223372036854775807 : Int)
  refine brd (fun c3 => ?_) (fun c3 => ?_) -- decide ((↑v_1.fst : Int) < n3)
  · -- yes
    refine ⟨by first | omega | (dsimp only; omega), ?_⟩ -- (0 : Int) ≤ (↑v_1.fst : Int)
    refine ⟨by first | omega | (dsimp only; omega), ?_⟩ -- (↑v_1.fst : Int) < (↑l.length : Int)
    refine ⟨?_, ?_⟩
    · -- left
      refine ⟨by first | omega | (dsimp only; omega), ?_⟩ -- (0 : Int) ≤ (↑(l.getD (↑v_1.fst : Int).toNat (dflt (8 : Nat))).kind.toNat : Int)
      -- (↑(l.getD (↑v_1.fst : Int).toNat (dflt (8 : Nat))).kind.toNat : Int) ≤ (255 : Int)
      have := (l.getD (v_1.fst : Int).toNat (dflt 8)).kind.toNat_lt
      omega
    refine ⟨?_, ?_⟩
    · -- left
      refine ⟨by first | omega | (dsimp only; omega), ?_⟩ -- (0 : Int) ≤ (↑(l.getD (↑v_1.fst : Int).toNat (dflt (8 : Nat))).seq.toNat : Int)
      -- (↑(l.getD (↑v_1.fst : Int).toNat (dflt (8 : Nat))).seq.toNat : Int) ≤ (4294967295 : Int)
      have := (l.getD (v_1.fst : Int).toNat (dflt 8)).seq.toNat_lt
      omega
    refine ⟨?_, ?_⟩
    · -- left
      intro h4 -- (512 : Nat) < (l.getD (↑v_1.fst : Int).toNat (dflt (8 : Nat))).body.length
      intro n7
      intro q7 -- n7 = (↑v_1.snd.length : Int)
      -- k (AV.tup [AV.nilsl, AV.bool false]) [] []
      exact hk.1
    intro q7 -- (l.getD (↑v_1.fst : Int).toNat (dflt (8 : Nat))).body.length ≤ (512 : Nat)
    intro ys_9
    intro n_10
    intro h5 -- ys_9 = wr (↑(l.getD (↑v_1.fst : Int).toNat (dflt (8 : Nat))).kind.toNat : Int) (↑(l.getD (↑v_1.fst : Int).toNat (dflt (8 : Nat))).seq.toNat : Int) (l.getD (↑v_1.fst : Int).toNat (dflt (8 : Nat))).body
    intro h6 -- ys_9.length = n_10
    intro n13
    intro q13 -- n13 = (↑v_1.snd.length : Int)
    refine br_intro (fun c7 => ?_) (fun c7 => ?_) -- bif (0 : Int) != (0 : Int) then true else decide (n13 > (6000 : Int))
    · -- yes
      simp at c7 -- (6000 : Int) < n13
      -- k (AV.tup [AV.nilsl, AV.bool false]) [] []
      exact hk.1
    · -- no
      simp at c7 -- n13 ≤ (6000 : Int)
      have h8 : (v_1.snd.length + n_10) * (1 : Nat) ≤ (140737488355328 : Nat) := by
        have W : ys_9.length ≤ 1100 := by rw [h5]; exact wr_len _ _ _ q7
        omega
      refine ⟨h8, ?_⟩
      intro z15
      intro qz15 -- z15 = List.take v_1.snd.length v_1.snd ++ List.take n_10 (List.drop (0 : Nat) ys_9)
      intro n17
      intro q17 -- n17 = IntKind.i64.wrap ((↑v_1.fst : Int) + (1 : Int))
      rw [IntKind.wrap_i64] at q17
      intro ⟨l17, u17⟩ -- (-9223372036854775808 : Int) ≤ n17 ∧ n17 ≤ (9223372036854775807 : Int)
      refine ⟨(n17.toNat, z15), ?_⟩
      refine ⟨by first | with_reducible rfl | rfl, ?_⟩ -- l = l
      refine ⟨by first | with_reducible rfl | rfl, ?_⟩ -- (0 : Nat) = (0 : Nat)
      have h9 : v_1.snd.length + n_10 = z15.length := by
        rw [qz15, ← h6]; simp
      refine ⟨h9, ?_⟩
      refine ⟨by show n17 = (↑n17.toNat : Int); omega, ?_⟩ -- n17 = (↑n17.toNat : Int)
      refine ⟨by first | with_reducible rfl | rfl, ?_⟩ -- z15 = z15
      refine ⟨?_, ?_⟩
      · -- left
        refine ⟨by show n17.toNat ≤ l.length; omega, ?_⟩ -- n17.toNat ≤ l.length
        refine ⟨by show l.length ≤ (100 : Nat); assumption, ?_⟩ -- l.length ≤ (100 : Nat)
        have h10 : z15 = frs (List.take n17.toNat l) := by
          simp only [Int.toNat_natCast] at h5 q7
          rw [show n17.toNat = v_1.fst + 1 by omega, frs_take l (by omega), ← h2.2.2.1, qz15, ← h6, List.drop_zero, List.take_length, List.take_length, h5]
          rfl
        refine ⟨h10, ?_⟩
        have h11 : okM (List.take n17.toNat l) := by
          simp only [Int.toNat_natCast] at q7
          rw [show n17.toNat = v_1.fst + 1 by omega, take_step l (dflt 8) (by omega)]
          refine ⟨fun m hm => ?_⟩
          rcases List.mem_append.1 hm with c | c
          · exact h2.2.2.2.1.e m c
          · rw [List.mem_singleton.1 c]; exact q7
        refine ⟨h11, ?_⟩
        -- z15.length ≤ (1100 : Nat) * n17.toNat
        have W : ys_9.length ≤ 1100 := by rw [h5]; exact wr_len _ _ _ q7
        show z15.length ≤ 1100 * n17.toNat
        omega
      exact by show l.length - n17.toNat < l.length - v_1.fst; omega -- l.length - n17.toNat < l.length - v_1.fst
  · -- no
    -- k (AV.tup [AV.row (0 : Nat) (0 : Nat) (0 : Nat) v_1.snd.length, AV.bool true]) [] [Blk.row (0 : Nat) v_1.snd]
    have e : List.take v_1.fst l = l := List.take_of_length_le (by omega)
    exact hk.2 ⟨fun m hm => h2.2.2.2.1.e m (by rw [e]; exact hm)⟩ _ _ (by rw [h2.2.2.1, e]) rfl

theorem fframes_ok : Holds Try.prog 28 framesS := by
  refine fn_sound (env := mkEnv T2w) (tab_ok T2w_ok) Try.func28 Try.call28 fun args k h => ?_
  match args, h with
  | [.sl 8 l], h => exact ⟨by kernel_rfl, framesLoops l, fun _ _ => none, .cast (by kernel_rfl) (fframes_vc l h.1 k h.2)⟩
def T6 : Tab := [(27, trueS), (24, new0S), (25, feedS), (21, scanS), (29, sameS), (28, framesS)]
theorem T6_ok : TabOk Try.prog T6 := ⟨alive_ok, fnew_ok, feed_ok, fscan_ok, fsame_ok, fframes_ok, trivial⟩
end Go.Proofs.Ytilbglkpbjamfaa

