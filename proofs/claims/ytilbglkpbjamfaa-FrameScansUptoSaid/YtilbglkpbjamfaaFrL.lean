import Derived.Test.YtilbglkpbjamfaaFrK
namespace Go.Proofs.Ytilbglkpbjamfaa
open Go Go.Eng Go.Rw Go.Fr Go.Proofs
set_option linter.unusedVariables false
set_option maxHeartbeats 2000000 in
theorem flast0_vc (b : List UInt8) (c : Int) (hc : c = (126 : Int)) (k : AV → List (Option Blk) → List Blk → Prop) (hk : ∀ (a : Int), a = lastE b → (-1 : Int) ≤ a ∧ a < (↑b.length : Int) → k (AV.int IntKind.i64 a) [] []) :
  ∀ (n1 : Int),
  (n1 = (↑b.length : Int)) →
  ((-9223372036854775808 : Int) ≤ n1 ∧ n1 ≤ (9223372036854775807 : Int)) →
  ∀ (n4 : Int),
  (n4 = IntKind.i64.wrap (n1 - (1 : Int))) →
  ((-9223372036854775808 : Int) ≤ n4 ∧ n4 ≤ (9223372036854775807 : Int)) →
  (
   ∃ (v : Int),
   (b = b) ∧
   (c = c) ∧
   (n4 = v) ∧
   (
    ((-1 : Int) ≤ v) ∧
    (v < (↑b.length : Int))) ∧
   (lastE (List.drop (v + (1 : Int)).toNat b) = (-1 : Int))) ∧
  ∀ (v_7 : Int),
  (((-1 : Int) ≤ v_7 ∧ v_7 < (↑b.length : Int)) ∧ lastE (List.drop (v_7 + (1 : Int)).toNat b) = (-1 : Int)) →
  br (decide (v_7 ≥ (0 : Int)))
   (((0 : Int) ≤ v_7) ∧
    (v_7 < (↑b.length : Int)) ∧
    ∀ (n9 : Int),
    (n9 = (↑(b.getD v_7.toNat (0 : UInt8)).toNat : Int)) →
    ((0 : Int) ≤ n9 ∧ n9 ≤ (255 : Int)) →
    br (n9 == c)
     ((k (AV.int IntKind.i64 v_7) [] []))
     (∀ (n12 : Int),
      (n12 = IntKind.i64.wrap (v_7 - (1 : Int))) →
      ((-9223372036854775808 : Int) ≤ n12 ∧ n12 ≤ (9223372036854775807 : Int)) →
      ∃ (v' : Int),
      (b = b) ∧
      (c = c) ∧
      (n12 = v') ∧
      (
       (
        ((-1 : Int) ≤ v') ∧
        (v' < (↑b.length : Int))) ∧
       (lastE (List.drop (v' + (1 : Int)).toNat b) = (-1 : Int))) ∧
      ((v' + (1 : Int)).toNat < (v_7 + (1 : Int)).toNat)))
   ((k (AV.int IntKind.i64 (-1 : Int)) [] [])) := by
  intro n1
  intro q1 -- n1 = (↑b.length : Int)
  intro ⟨l1, u1⟩ -- (-9223372036854775808 : Int) ≤ n1 ∧ n1 ≤ (9223372036854775807 : Int)
  intro n4
  intro q4 -- n4 = IntKind.i64.wrap (n1 - (1 : Int))
  rw [IntKind.wrap_i64] at q4
  intro ⟨l4, u4⟩ -- (-9223372036854775808 : Int) ≤ n4 ∧ n4 ≤ (9223372036854775807 : Int)
  refine ⟨?_, ?_⟩
  · -- left
    refine ⟨n4, ?_⟩
    refine ⟨by first | with_reducible rfl | rfl, ?_⟩ -- b = b
    refine ⟨by first | with_reducible rfl | rfl, ?_⟩ -- c = c
    refine ⟨by first | with_reducible rfl | rfl, ?_⟩ -- n4 = n4
    refine ⟨by first | omega | (dsimp only; omega), ?_⟩ -- (-1 : Int) ≤ n4 ∧ n4 < (↑b.length : Int)
    -- lastE (List.drop (n4 + (1 : Int)).toNat b) = (-1 : Int)
    rw [List.drop_of_length_le (by omega)]; rfl
  intro v_7
  intro h1 -- ((-1 : Int) ≤ v_7 ∧ v_7 < (↑b.length : Int)) ∧ lastE (List.drop (v_7 + (1 : Int)).toNat b) = (-1 : Int)
  refine brd (fun c2 => ?_) (fun c2 => ?_) -- decide (v_7 ≥ (0 : Int))
  · -- yes
    refine ⟨by assumption, ?_⟩ -- (0 : Int) ≤ v_7
    refine ⟨by first | omega | (dsimp only; omega), ?_⟩ -- v_7 < (↑b.length : Int)
    intro n9
    intro q9 -- n9 = (↑(b.getD v_7.toNat (0 : UInt8)).toNat : Int)
    intro ⟨l9, u9⟩ -- (0 : Int) ≤ n9 ∧ n9 ≤ (255 : Int)
    refine br_intro (fun c3 => ?_) (fun c3 => ?_) -- n9 == c
    · -- yes
      simp at c3 -- n9 = c
      -- k (AV.int IntKind.i64 v_7) [] []
      exact hk v_7 (last_is (by omega) (by omega) (byteE q9 (c3.trans hc)) h1.2) ⟨by omega, by omega⟩
    · -- no
      simp at c3 -- ¬n9 = c
      intro n12
      intro q12 -- n12 = IntKind.i64.wrap (v_7 - (1 : Int))
      rw [IntKind.wrap_i64] at q12
      intro ⟨l12, u12⟩ -- (-9223372036854775808 : Int) ≤ n12 ∧ n12 ≤ (9223372036854775807 : Int)
      refine ⟨n12, ?_⟩
      refine ⟨by first | with_reducible rfl | rfl, ?_⟩ -- b = b
      refine ⟨by first | with_reducible rfl | rfl, ?_⟩ -- c = c
      refine ⟨by first | with_reducible rfl | rfl, ?_⟩ -- n12 = n12
      refine ⟨?_, ?_⟩
      · -- left
        refine ⟨by first | omega | (dsimp only; omega), ?_⟩ -- (-1 : Int) ≤ n12 ∧ n12 < (↑b.length : Int)
        -- lastE (List.drop (n12 + (1 : Int)).toNat b) = (-1 : Int)
        exact last_back (by omega) (by omega) (fun e => c3 (by rw [q9, e, hc]; rfl)) h1.2 (by omega)
      exact by show (n12 + (1 : Int)).toNat < (v_7 + (1 : Int)).toNat; omega -- (n12 + (1 : Int)).toNat < (v_7 + (1 : Int)).toNat
  · -- no
    -- k (AV.int IntKind.i64 (-1 : Int)) [] []
    have e := h1.2
    rw [show (v_7 + 1).toNat = 0 by omega, List.drop_zero] at e
    exact hk (-1) e.symm ⟨by omega, by omega⟩

theorem flast0_ok : Holds Try.prog 40 lastS := by
  refine fn_sound (env := mkEnv T0) (tab_ok T0_ok) Try.func40 Try.call40 fun args k h => ?_
  match args, h with
  | [.sl 0 b, .int .u8 c], h => exact ⟨by kernel_rfl, lastLoops b c, fun _ _ => none, .cast (by kernel_rfl) (flast0_vc b c h.1 k h.2)⟩
theorem T3_ok : TabOk Try.prog T3 := ⟨open_ok, bare_ok, inside_ok, stuff_ok, flast0_ok, trivial⟩
set_option maxHeartbeats 2000000 in
theorem flast_vc (b : List UInt8) (c : Int) (hc : c = (126 : Int)) (k : AV → List (Option Blk) → List Blk → Prop) (hk : ∀ (a : Int), a = lastE b → (-1 : Int) ≤ a ∧ a < (↑b.length : Int) → k (AV.int IntKind.i64 a) [] []) :
  (c = (126 : Int)) ∧
  ∀ (a_1 : Int),
  (a_1 = lastE b) →
  ((-1 : Int) ≤ a_1 ∧ a_1 < (↑b.length : Int)) →
  (k (AV.int IntKind.i64 a_1) [] []) := by
  refine ⟨by assumption, ?_⟩ -- c = (126 : Int)
  intro a_1
  intro h1 -- a_1 = lastE b
  intro ⟨a2, b2⟩ -- (-1 : Int) ≤ a_1 ∧ a_1 < (↑b.length : Int)
  -- k (AV.int IntKind.i64 a_1) [] []
  exact hk _ (by assumption) ⟨by omega, by omega⟩

theorem flast_ok : Holds Try.prog 37 lastS := by
  refine fn_sound (env := mkEnv T3) (tab_ok T3_ok) Try.func37 Try.call37 fun args k h => ?_
  match args, h with
  | [.sl 0 b, .int .u8 c], h => exact ⟨by kernel_rfl, fun _ _ => none, fun _ _ => none, .cast (by kernel_rfl) (flast_vc b c h.1 k h.2)⟩
set_option maxHeartbeats 2000000 in
theorem piece_vc (u : List UInt8) (hx : u.length ≤ (1000000 : Nat)) (k : AV → List (Option Blk) → List Blk → Prop) (hk : (pc u = none → k (AV.tup [AV.agg [AV.int IntKind.u8 (0 : Int), AV.int IntKind.u32 (0 : Int), AV.nilsl], AV.bool false]) [] []) ∧ ∀ (kd sq : Int) (bo : List UInt8) (n : Nat), pc u = some (kd, sq, bo) → bo.length = n → (0 : Int) ≤ kd ∧ kd ≤ (255 : Int) → (0 : Int) ≤ sq ∧ sq ≤ (4294967295 : Int) → k (AV.tup [AV.agg [AV.int IntKind.u8 kd, AV.int IntKind.u32 sq, AV.row (0 : Nat) (0 : Nat) (0 : Nat) n], AV.bool true]) [] [Blk.row (0 : Nat) bo]) :
  (u.length ≤ (1000000 : Nat)) ∧
  (
   (bare u = none) →
   (k (AV.tup [AV.agg [AV.int IntKind.u8 (0 : Int), AV.int IntKind.u32 (0 : Int), AV.nilsl], AV.bool false]) [] [])) ∧
  ∀ (o_1 : List UInt8),
  ∀ (n_2 : Nat),
  (bare u = some o_1) →
  (o_1.length = n_2) →
  (
   (¬okO (List.take n_2 (List.drop (0 : Nat) o_1))) →
   (k (AV.tup [AV.agg [AV.int IntKind.u8 (0 : Int), AV.int IntKind.u32 (0 : Int), AV.nilsl], AV.bool ((8 : Int) == (0 : Int))]) [] [])) ∧
  (((9 : Nat) ≤ (List.take n_2 (List.drop (0 : Nat) o_1)).length ∧ (List.take n_2 (List.drop (0 : Nat) o_1)).length ≤ (521 : Nat) ∧ sumN (List.take ((List.take n_2 (List.drop (0 : Nat) o_1)).length - (4 : Nat)) (List.take n_2 (List.drop (0 : Nat) o_1))) = getL (List.drop ((List.take n_2 (List.drop (0 : Nat) o_1)).length - (4 : Nat)) (List.take n_2 (List.drop (0 : Nat) o_1)))) →
  ∀ (kd_6 : Int),
  ∀ (sq_7 : Int),
  ∀ (bo_8 : List UInt8),
  ∀ (n_9 : Nat),
  (kd_6 = oK (List.take n_2 (List.drop (0 : Nat) o_1))) →
  (sq_7 = oS (List.take n_2 (List.drop (0 : Nat) o_1))) →
  (bo_8 = oB (List.take n_2 (List.drop (0 : Nat) o_1))) →
  (bo_8.length = n_9) →
  ((0 : Int) ≤ kd_6 ∧ kd_6 ≤ (255 : Int)) →
  ((0 : Int) ≤ sq_7 ∧ sq_7 ≤ (4294967295 : Int)) →
  (k (AV.tup [AV.agg [AV.int IntKind.u8 kd_6, AV.int IntKind.u32 sq_7, AV.row (0 : Nat) (0 : Nat) (0 : Nat) n_9], AV.bool ((0 : Int) == (0 : Int))]) [] [Blk.row (0 : Nat) bo_8])) := by
  refine ⟨by assumption, ?_⟩ -- u.length ≤ (1000000 : Nat)
  refine ⟨?_, ?_⟩
  · -- left
    intro h1 -- bare u = none
    -- k (AV.tup [AV.agg [AV.int IntKind.u8 (0 : Int), AV.int IntKind.u32 (0 : Int), AV.nilsl], AV.bool false]) [] []
    exact hk.1 (by unfold pc; rw [h1])
  intro o_1
  intro n_2
  intro h2 -- bare u = some o_1
  intro h3 -- o_1.length = n_2
  refine ⟨?_, ?_⟩
  · -- left
    intro h4 -- ¬okO (List.take n_2 (List.drop (0 : Nat) o_1))
    -- k (AV.tup [AV.agg [AV.int IntKind.u8 (0 : Int), AV.int IntKind.u32 (0 : Int), AV.nilsl], AV.bool ((8 : Int) == (0 : Int))]) [] []
    have E : List.take n_2 (List.drop 0 o_1) = o_1 := by rw [List.drop_zero, ← h3, List.take_length]
    rw [E] at h4
    exact hk.1 (by unfold pc; rw [h2]; exact if_neg h4)
  intro h5 -- (9 : Nat) ≤ (List.take n_2 (List.drop (0 : Nat) o_1)).length ∧ (List.take n_2 (List.drop (0 : Nat) o_1)).length ≤ (521 : Nat) ∧ sumN (List.take ((List.take n_2 (List.drop (0 : Nat) o_1)).length - (4 : Nat)) (List.take n_2 (List.drop (0 : Nat) o_1))) = getL (List.drop ((List.take n_2 (List.drop (0 : Nat) o_1)).length - (4 : Nat)) (List.take n_2 (List.drop (0 : Nat) o_1)))
  intro kd_6
  intro sq_7
  intro bo_8
  intro n_9
  intro h6 -- kd_6 = oK (List.take n_2 (List.drop (0 : Nat) o_1))
  intro h7 -- sq_7 = oS (List.take n_2 (List.drop (0 : Nat) o_1))
  intro h8 -- bo_8 = oB (List.take n_2 (List.drop (0 : Nat) o_1))
  intro h9 -- bo_8.length = n_9
  intro ⟨a10, b10⟩ -- (0 : Int) ≤ kd_6 ∧ kd_6 ≤ (255 : Int)
  intro ⟨a11, b11⟩ -- (0 : Int) ≤ sq_7 ∧ sq_7 ≤ (4294967295 : Int)
  -- k (AV.tup [AV.agg [AV.int IntKind.u8 kd_6, AV.int IntKind.u32 sq_7, AV.row (0 : Nat) (0 : Nat) (0 : Nat) n_9], AV.bool ((0 : Int) == (0 : Int))]) [] [Blk.row (0 : Nat) bo_8]
  have E : List.take n_2 (List.drop 0 o_1) = o_1 := by rw [List.drop_zero, ← h3, List.take_length]
  have h5' : okO (List.take n_2 (List.drop 0 o_1)) := h5
  rw [E] at h5' h6 h7 h8
  exact hk.2 _ _ _ _ (by unfold pc; rw [h2, h6, h7, h8]; exact if_pos h5') h9 ⟨by omega, by omega⟩ ⟨by omega, by omega⟩

theorem piece_ok : Holds Try.prog 38 pieceS := by
  refine fn_sound (env := mkEnv T3) (tab_ok T3_ok) Try.func38 Try.call38 fun args k h => ?_
  match args, h with
  | [.sl 0 u], h => exact ⟨by kernel_rfl, fun _ _ => none, fun _ _ => none, .cast (by kernel_rfl) (piece_vc u h.1 k h.2)⟩
set_option maxHeartbeats 2000000 in
theorem fnew_vc (k : AV → List (Option Blk) → List Blk → Prop) (hk : k (AV.ptr (0 : Nat) (0 : Nat)) [] [Blk.cells [AV.nilsl, AV.bool false, AV.bool false, AV.bool true]]) :
  (k (AV.ptr (0 : Nat) (0 : Nat)) [] [Blk.cells [AV.nilsl, AV.bool false, AV.bool false, AV.bool true]]) := by
  -- k (AV.ptr (0 : Nat) (0 : Nat)) [] [Blk.cells [AV.nilsl, AV.bool false, AV.bool false, AV.bool true]]
  exact hk

theorem fnew_ok : Holds Try.prog 24 new0S := by
  refine fn_sound (env := mkEnv T0) (tab_ok T0_ok) Try.func24 Try.call24 fun args k h => ?_
  match args, h with
  | [], h => exact ⟨by kernel_rfl, fun _ _ => none, fun _ _ => none, .cast (by kernel_rfl) (fnew_vc  k h)⟩
theorem fnewR_ok : Holds Try.prog 24 newS := fnew_ok.nlCell 0 0 rfl rfl rfl fun args k h => by
  unfold newS at h
  dsimp only at h
  split at h
  · exact h
  · exact h.elim
set_option maxHeartbeats 2000000 in
theorem fwrite_vc (kd : Int) (kd0 : (0 : Int) ≤ kd) (kd1 : kd ≤ (255 : Int)) (sq : Int) (sq0 : (0 : Int) ≤ sq) (sq1 : sq ≤ (4294967295 : Int)) (bo : List UInt8) (k : AV → List (Option Blk) → List Blk → Prop) (hk : ((512 : Nat) < bo.length → k (AV.tup [AV.nilsl, AV.int IntKind.i64 (3 : Int)]) [] []) ∧ (bo.length ≤ (512 : Nat) → ∀ (ys : List UInt8) (n : Nat), ys = wr kd sq bo → ys.length = n → k (AV.tup [AV.row (0 : Nat) (0 : Nat) (0 : Nat) n, AV.int IntKind.i64 (0 : Int)]) [] [Blk.row (0 : Nat) ys])) :
  (
   ((0 : Int) ≤ kd) ∧
   (kd ≤ (255 : Int))) ∧
  (
   ((0 : Int) ≤ sq) ∧
   (sq ≤ (4294967295 : Int))) ∧
  (
   ((512 : Nat) < bo.length) →
   (k (AV.tup [AV.nilsl, AV.int IntKind.i64 (3 : Int)]) [] [])) ∧
  ((bo.length ≤ (512 : Nat)) →
  ∀ (ys_1 : List UInt8),
  ∀ (n_2 : Nat),
  (ys_1 = ins kd sq bo) →
  (ys_1.length = n_2) →
  ((List.take n_2 (List.drop (0 : Nat) ys_1)).length ≤ (1000000 : Nat)) ∧
  ∀ (ys_5 : List UInt8),
  ∀ (n_6 : Nat),
  (ys_5 = stf (List.take n_2 (List.drop (0 : Nat) ys_1))) →
  (ys_5.length = n_6) →
  (((1 : Nat) + n_6) * (1 : Nat) ≤ (140737488355328 : Nat)) ∧
  ∀ (z9 : List UInt8),
  (z9 = List.take (1 : Nat) [UInt8.ofNat (Int.toNat (126 : Int))] ++ List.take n_6 (List.drop (0 : Nat) ys_5)) →
  (((1 : Nat) + n_6 + (1 : Nat)) * (1 : Nat) ≤ (140737488355328 : Nat)) ∧
  ∀ (z11 : List UInt8),
  (z11 = List.take ((1 : Nat) + n_6) z9 ++ List.take (1 : Nat) (List.drop (0 : Nat) [UInt8.ofNat (Int.toNat (126 : Int))])) →
  (k (AV.tup [AV.row (0 : Nat) (0 : Nat) (0 : Nat) ((1 : Nat) + n_6 + (1 : Nat)), AV.int IntKind.i64 (0 : Int)]) [] [Blk.row (0 : Nat) z11])) := by
  refine ⟨by exact ⟨by assumption, by assumption⟩, ?_⟩ -- (0 : Int) ≤ kd ∧ kd ≤ (255 : Int)
  refine ⟨by exact ⟨by assumption, by assumption⟩, ?_⟩ -- (0 : Int) ≤ sq ∧ sq ≤ (4294967295 : Int)
  refine ⟨?_, ?_⟩
  · -- left
    intro h1 -- (512 : Nat) < bo.length
    -- k (AV.tup [AV.nilsl, AV.int IntKind.i64 (3 : Int)]) [] []
    exact hk.1 h1
  intro h2 -- bo.length ≤ (512 : Nat)
  intro ys_1
  intro n_2
  intro h3 -- ys_1 = ins kd sq bo
  intro h4 -- ys_1.length = n_2
  have h5 : (List.take n_2 (List.drop (0 : Nat) ys_1)).length ≤ (1000000 : Nat) := by
    have Y : List.take n_2 (List.drop 0 ys_1) = ins kd sq bo := by rw [List.drop_zero, ← h4, List.take_length, h3]
    rw [Y, ins_len]; omega
  refine ⟨h5, ?_⟩
  intro ys_5
  intro n_6
  intro h6 -- ys_5 = stf (List.take n_2 (List.drop (0 : Nat) ys_1))
  intro h7 -- ys_5.length = n_6
  have h8 : ((1 : Nat) + n_6) * (1 : Nat) ≤ (140737488355328 : Nat) := by
    have Y : List.take n_2 (List.drop 0 ys_1) = ins kd sq bo := by rw [List.drop_zero, ← h4, List.take_length, h3]
    have l6 := stf_len (ins kd sq bo)
    have li := ins_len kd sq bo
    have e6 : n_6 = (stf (ins kd sq bo)).length := by rw [← h7, h6, Y]
    omega
  refine ⟨h8, ?_⟩
  intro z9
  intro qz9 -- z9 = List.take (1 : Nat) [UInt8.ofNat (Int.toNat (126 : Int))] ++ List.take n_6 (List.drop (0 : Nat) ys_5)
  have h9 : ((1 : Nat) + n_6 + (1 : Nat)) * (1 : Nat) ≤ (140737488355328 : Nat) := by
    have Y : List.take n_2 (List.drop 0 ys_1) = ins kd sq bo := by rw [List.drop_zero, ← h4, List.take_length, h3]
    have l6 := stf_len (ins kd sq bo)
    have li := ins_len kd sq bo
    have e6 : n_6 = (stf (ins kd sq bo)).length := by rw [← h7, h6, Y]
    omega
  refine ⟨h9, ?_⟩
  intro z11
  intro qz11 -- z11 = List.take ((1 : Nat) + n_6) z9 ++ List.take (1 : Nat) (List.drop (0 : Nat) [UInt8.ofNat (Int.toNat (126 : Int))])
  -- k (AV.tup [AV.row (0 : Nat) (0 : Nat) (0 : Nat) ((1 : Nat) + n_6 + (1 : Nat)), AV.int IntKind.i64 (0 : Int)]) [] [Blk.row (0 : Nat) z11]
  have Y : List.take n_2 (List.drop 0 ys_1) = ins kd sq bo := by rw [List.drop_zero, ← h4, List.take_length, h3]
  have l6 := stf_len (ins kd sq bo)
  have li := ins_len kd sq bo
  have e6 : n_6 = (stf (ins kd sq bo)).length := by rw [← h7, h6, Y]
  have Z : z11 = wr kd sq bo := by
    rw [qz11, qz9, h6, Y, e6, List.drop_zero, List.take_length, List.take_of_length_le (by simp; omega)]
    rfl
  exact hk.2 h2 _ _ Z (by rw [Z, e6]; unfold wr; simp; omega)

theorem fwrite_ok : Holds Try.prog 12 writeS := by
  refine fn_sound (env := mkEnv T3) (tab_ok T3_ok) Try.func12 Try.call12 fun args k h => ?_
  match args, h with
  | [.agg [.int .u8 kd, .int .u32 sq, .sl 0 bo]], h => exact ⟨by kernel_rfl, fun _ _ => none, fun _ _ => none, .cast (by kernel_rfl) (fwrite_vc kd h.1.1 h.1.2 sq h.2.1.1 h.2.1.2 bo k h.2.2)⟩
def T4 : Tab := [(38, pieceS)]
theorem T4_ok : TabOk Try.prog T4 := ⟨piece_ok, trivial⟩
end Go.Proofs.Ytilbglkpbjamfaa

