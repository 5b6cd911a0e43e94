import Derived.Test.YtcdflgfhkohldaaStR
import Derived.Test.YtcdflgfhkohldaaStOr
namespace Go.Proofs.Ytcdflgfhkohldaa
open Go Go.Eng Go.Rw Go.Lk Go.Proofs
open Go.Bk hiding take_step drop_step set_mid
open Go.St hiding take_step
set_option linter.unusedVariables false
theorem F4_ok : TabOk Try.prog F4 := ⟨may_ok, F3r_ok⟩
def blocksS : Eng.Spec := { ro := false, own := [], run := fun args _ k => match args with
  | [.agg [.int .i64 g, .int .u8 m, .sl 10 ps], .int .i64 n] => ((-9223372036854775808 ≤ g ∧ g ≤ 9223372036854775807) ∧ 0 ≤ m ∧ m ≤ 255) ∧ (∀ e : Int, e = blkE g m ps n → e ≠ 0 → (0 ≤ e ∧ e ≤ 190) → k (.tup [.nilsl, .int .i64 e]) [] []) ∧ (blkE g m ps n = 0 → ∀ (bl : List (List UInt8)) (q : Nat), bl = blkO g m ps n → bl.length = q → k (.tup [.row 6 0 0 q, .int .i64 0]) [] [.row 6 bl])
  | _ => False }
theorem blocksr_up {f : FuncId} (hf : Holds Try.prog f blocksS) : Holds Try.prog f blocksT := by
  have h2 := Holds.fzA (t := { ro := false, own := [], run := fun args B k => blocksS.run args B (fzA k) }) hf rfl rfl rfl fun _ _ h => h
  refine h2.up (tupC 0 6) (fun _ _ _ _ _ h => tupC_rep h) rfl rfl rfl fun args k h => ?_
  show blocksS.run args [] _
  unfold blocksT at h
  dsimp only at h
  split at h
  · refine ⟨h.1, fun e he hz hi => ?_, fun hz bl q hb hq => ?_⟩
    · show k (.tup [.sl 6 [], .int .i64 e]) [] []
      exact h.2 e [] he (by unfold blkO; rw [if_neg (by rw [← he]; exact hz)]) hi fun c => absurd c hz
    · show k (.tup [.sl 6 ((bl.drop 0).take q), .int .i64 0]) [] []
      rw [List.drop_zero, ← hq, List.take_length]
      exact h.2 0 bl hz.symm hb (by omega) fun _ => by rw [hb, blkO_len hz]
  · exact h.elim
set_option maxHeartbeats 2000000 in
theorem rblocks_vc (g : Int) (m : Int) (ps : List Plan) (n : Int) (hg : (-9223372036854775808 ≤ g ∧ g ≤ 9223372036854775807) ∧ 0 ≤ m ∧ m ≤ 255) (k : AV → List (Option Blk) → List Blk → Prop) (hk : (∀ (e : Int), e = blkE g m ps n → e ≠ (0 : Int) → 0 ≤ e ∧ e ≤ 190 → k (.tup [.nilsl, .int .i64 e]) [] []) ∧ (blkE g m ps n = 0 → ∀ (bl : List (List UInt8)) (q : Nat), bl = blkO g m ps n → bl.length = q → k (.tup [.row 6 0 0 q, .int .i64 0]) [] [.row 6 bl])) : br (bif decide (n < 1) then true else decide (n > 32)) ((k (.tup [.nilsl, .int .i64 2]) [] [])) (((0 ≤ m) ∧ (m ≤ 255)) ∧ ∀ (e_1 : Int), (e_1 = mayE g m ps) → (e_1 = 0 ∨ e_1 = 4 ∨ e_1 = 170 ∨ e_1 = 190) → br (e_1 != 0) ((k (.tup [.nilsl, .int .i64 e_1]) [] [])) (∀ (n4 : Int), (n4 = m) → (inK .u8 n4) → ∀ (n7 : Int), (n7 = IntKind.u64.wrap n4) → (inK .u64 n7) → ((0 ≤ n7) ∧ (n7 ≤ 18446744073709551615)) ∧ ∀ (ys_10 : List UInt8), ∀ (q_11 : Nat), (ys_10 = smallL n7.toNat) → (ys_10.length = q_11) → (q_11 ≤ 10) → ∀ (e_15 : Int), ∀ (ys_16 : List UInt8), ∀ (n_17 : Nat), (e_15 = wholeE ps) → (e_15 = 0 ∨ e_15 = 4 ∨ e_15 = 170) → (ys_16 = wholeO ps) → (ys_16.length = n_17) → (n_17 ≤ 1000) → ((q_11 + n_17) * 1 ≤ 140737488355328) ∧ ∀ (z23 : List UInt8), (z23 = List.take q_11 ys_10 ++ List.take n_17 (List.drop 0 ys_16)) → ∀ (n25 : Int), (n25 = (↑(q_11 + n_17) : Int)) → (inK .i64 n25) → ∀ (n28 : Int), (n28 = IntKind.u64.wrap n25) → (inK .u64 n28) → ((0 ≤ n28) ∧ (n28 ≤ 18446744073709551615)) ∧ ∀ (ys_31 : List UInt8), ∀ (q_32 : Nat), (ys_31 = smallL n28.toNat) → (ys_31.length = q_32) → (q_32 ≤ 10) → ((q_32 + (q_11 + n_17)) * 1 ≤ 140737488355328) ∧ ∀ (z36 : List UInt8), (z36 = List.take q_32 ys_31 ++ List.take (q_11 + n_17) (List.drop 0 z23)) → ∀ (n38 : Int), (n38 = (↑(q_32 + (q_11 + n_17)) : Int)) → (inK .i64 n38) → ∀ (n41 : Int), (n41 = IntKind.i64.wrap ((48 : Int) * n)) → (inK .i64 n41) → br (decide (n38 > n41)) ((k (.tup [.nilsl, .int .i64 190]) [] [])) ((∃ (v : Nat × List UInt8), (n = n) ∧ (0 = 0) ∧ (q_32 + (q_11 + n_17) = v.fst) ∧ (z36 = v.snd) ∧ (g = g) ∧ (m = m) ∧ (ps = ps) ∧ (v.fst ≤ 48 * n.toNat) ∧ (Laid g m n ps) ∧ ((1 ≤ n) ∧ (n ≤ 32)) ∧ (v.snd.length = v.fst) ∧ (v.snd = blkB m ps ++ List.replicate (v.fst - (blkB m ps).length) (0 : UInt8)) ∧ ((blkB m ps).length ≤ v.fst)) ∧ ∀ (v_44 : Nat × List UInt8), (v_44.fst ≤ 48 * n.toNat ∧ Laid g m n ps ∧ (1 ≤ n ∧ n ≤ 32) ∧ v_44.snd.length = v_44.fst ∧ v_44.snd = blkB m ps ++ List.replicate (v_44.fst - (blkB m ps).length) (0 : UInt8) ∧ (blkB m ps).length ≤ v_44.fst) → ∀ (n46 : Int), (n46 = (↑v_44.fst : Int)) → (inK .i64 n46) → ∀ (n49 : Int), (n49 = IntKind.i64.wrap ((48 : Int) * n)) → (inK .i64 n49) → br (decide (n46 < n49)) (((v_44.fst + 1) * 1 ≤ 140737488355328) ∧ ∀ (z52 : List UInt8), (z52 = List.take v_44.fst v_44.snd ++ List.take 1 (List.drop 0 [UInt8.ofNat (Int.toNat (0 : Int))])) → ∃ (v' : Nat × List UInt8), (n = n) ∧ (0 = 0) ∧ (v_44.fst + 1 = v'.fst) ∧ (z52 = v'.snd) ∧ (g = g) ∧ (m = m) ∧ (ps = ps) ∧ ((v'.fst ≤ 48 * n.toNat) ∧ (Laid g m n ps) ∧ ((1 ≤ n) ∧ (n ≤ 32)) ∧ (v'.snd.length = v'.fst) ∧ (v'.snd = blkB m ps ++ List.replicate (v'.fst - (blkB m ps).length) (0 : UInt8)) ∧ ((blkB m ps).length ≤ v'.fst)) ∧ (48 * n.toNat - v'.fst < 48 * n.toNat - v_44.fst)) (∀ (n54 : Int), (n54 = g) → (inK .i64 n54) → ∀ (n57 : Int), (n57 = IntKind.u64.wrap n54) → (inK .u64 n57) → ((0 ≤ n57) ∧ (n57 ≤ 18446744073709551615)) ∧ (((-9223372036854775808 : Int) ≤ (8 : Int)) ∧ ((8 : Int) ≤ (9223372036854775807 : Int))) ∧ ∀ (ys_60 : List UInt8), ∀ (q_61 : Nat), ∀ (e_62 : Int), (ys_60 = putF n57 (8 : Int)) → (ys_60.length = q_61) → (e_62 = putE n57 (8 : Int)) → (e_62 = 0 ∨ e_62 = 2) → (∃ (v : Nat × List (List UInt8) × List UInt8 × List UInt8), (n = n) ∧ (List.take v_44.fst (List.drop 0 v_44.snd) = v.snd.snd.fst) ∧ (List.take q_61 (List.drop 0 ys_60) = v.snd.snd.snd) ∧ (0 = 0) ∧ (0 = v.fst) ∧ ((0 : Int) = (↑v.fst : Int)) ∧ ([] = v.snd.fst) ∧ (v.fst ≤ n.toNat) ∧ (Laid g m n ps) ∧ ((1 ≤ n) ∧ (n ≤ 32)) ∧ (v.snd.snd.fst.length = 48 * n.toNat) ∧ (v.snd.snd.snd.length = 8) ∧ (v.snd.fst.length = v.fst) ∧ (BIn g m ps n v.fst v.snd.fst v.snd.snd.fst v.snd.snd.snd)) ∧ ∀ (v_67 : Nat × List (List UInt8) × List UInt8 × List UInt8), (v_67.fst ≤ n.toNat ∧ Laid g m n ps ∧ (1 ≤ n ∧ n ≤ 32) ∧ v_67.snd.snd.fst.length = 48 * n.toNat ∧ v_67.snd.snd.snd.length = 8 ∧ v_67.snd.fst.length = v_67.fst ∧ BIn g m ps n v_67.fst v_67.snd.fst v_67.snd.snd.fst v_67.snd.snd.snd) → br (decide ((↑v_67.fst : Int) < n)) ((v_67.snd.snd.snd.length * 1 ≤ 140737488355328) ∧ ∀ (z69 : List UInt8), (z69 = v_67.snd.snd.snd) → ∀ (n71 : Int), (n71 = IntKind.i64.wrap ((↑v_67.fst : Int) * (48 : Int))) → (inK .i64 n71) → ∀ (n74 : Int), (n74 = IntKind.i64.wrap ((↑v_67.fst : Int) * (48 : Int))) → (inK .i64 n74) → ∀ (n77 : Int), (n77 = IntKind.i64.wrap (n74 + 48)) → (inK .i64 n77) → (0 ≤ n71) ∧ (n71 ≤ n77) ∧ (n77 ≤ (↑v_67.snd.snd.fst.length : Int)) ∧ ((v_67.snd.snd.snd.length + (List.drop n71.toNat (List.take n77.toNat v_67.snd.snd.fst)).length) * 1 ≤ 140737488355328) ∧ ∀ (z80 : List UInt8), (z80 = List.take v_67.snd.snd.snd.length z69 ++ List.drop n71.toNat (List.take n77.toNat v_67.snd.snd.fst)) → ((v_67.snd.snd.snd.length + (List.drop n71.toNat (List.take n77.toNat v_67.snd.snd.fst)).length + v_67.snd.snd.snd.length) * 1 ≤ 140737488355328) ∧ ∀ (z82 : List UInt8), (z82 = List.take (v_67.snd.snd.snd.length + (List.drop n71.toNat (List.take n77.toNat v_67.snd.snd.fst)).length) z80 ++ v_67.snd.snd.snd) → ((v_67.fst + 1) * 24 ≤ 140737488355328) ∧ ∀ (z84 : List (List UInt8)), (z84 = List.take v_67.fst v_67.snd.fst ++ List.take 1 (List.drop 0 [List.take (v_67.snd.snd.snd.length + (List.drop n71.toNat (List.take n77.toNat v_67.snd.snd.fst)).length + v_67.snd.snd.snd.length) (List.drop 0 z82)])) → ∀ (n86 : Int), (n86 = IntKind.i64.wrap ((↑v_67.fst : Int) + (1 : Int))) → (inK .i64 n86) → ∃ (v' : Nat × List (List UInt8) × List UInt8 × List UInt8), (n = n) ∧ (v_67.snd.snd.fst = v'.snd.snd.fst) ∧ (v_67.snd.snd.snd = v'.snd.snd.snd) ∧ (0 = 0) ∧ (v_67.fst + 1 = v'.fst) ∧ (n86 = (↑v'.fst : Int)) ∧ (z84 = v'.snd.fst) ∧ ((v'.fst ≤ n.toNat) ∧ (Laid g m n ps) ∧ ((1 ≤ n) ∧ (n ≤ 32)) ∧ (v'.snd.snd.fst.length = 48 * n.toNat) ∧ (v'.snd.snd.snd.length = 8) ∧ (v'.snd.fst.length = v'.fst) ∧ (BIn g m ps n v'.fst v'.snd.fst v'.snd.snd.fst v'.snd.snd.snd)) ∧ (n.toNat - v'.fst < n.toNat - v_67.fst)) ((k (.tup [.row 6 0 0 v_67.fst, .int .i64 0]) [] [.row 6 v_67.snd.fst])))))) := by
 refine br_intro (fun c1 => ?_) (fun c1 => ?_)
 ·
  simp at c1
  exact hk.1 _ (blkE_2 (by omega)) (by decide) (by omega)
 simp at c1
 refine ⟨by first | omega | (dsimp only; omega), ?_⟩
 intro e_1 h2 h3
 refine br_intro (fun c4 => ?_) (fun c4 => ?_)
 ·
  simp at c4
  exact hk.1 _ (blkE_may (by omega) h2 c4) c4 (by omega)
 simp at c4
 intro n4 q4 ⟨l4, u4⟩ n7 q7
 first | (rw [wrU64] at q7; rotate_left 1; · omega) | rw [IntKind.wrap_u64] at q7
 intro ⟨l7, u7⟩
 refine ⟨by exact ⟨by assumption, by assumption⟩, ?_⟩
 intro ys_10 q_11 h5 h6 h7 e_15 ys_16 n_17 h8 h9 h10 h11 h12
 refine ⟨by first | omega | (dsimp only; omega), ?_⟩
 intro z23 qz23 n25 q25 ⟨l25, u25⟩ n28 q28
 first | (rw [wrU64] at q28; rotate_left 1; · omega) | rw [IntKind.wrap_u64] at q28
 intro ⟨l28, u28⟩
 refine ⟨by exact ⟨by assumption, by assumption⟩, ?_⟩
 intro ys_31 q_32 h13 h14 h15
 refine ⟨by first | omega | (dsimp only; omega), ?_⟩
 intro z36 qz36 n38 q38 ⟨l38, u38⟩ n41 q41
 first | (rw [wrI64] at q41; rotate_left 1; · omega) | rw [IntKind.wrap_i64] at q41
 intro ⟨l41, u41⟩
 refine brd (fun c16 => ?_) (fun c16 => ?_)
 ·
  obtain ⟨i1, i2⟩ := bl_in (m := m) (ps := ps) (by omega) (show n7 = m by omega) h5 h6 h10 h11 qz23
  obtain ⟨j1, j2⟩ := bl_b i1 i2 (show n28 = ((q_11 + n_17 : Nat) : Int) by omega) h13 h14 qz36
  rw [j1] at j2
  exact hk.1 _ (blkE_190 (by omega) (h2.symm.trans c4) (by rw [j2]; omega)) (by decide) (by omega)
 refine ⟨?_, ?_⟩
 ·
  refine ⟨(q_32 + (q_11 + n_17), z36), rfl, rfl, rfl, rfl, rfl, rfl, rfl, by show q_32 + (q_11 + n_17) ≤ (48 : Nat) * n.toNat; omega, ?_⟩
  have h17 : Laid g m n ps := by
   obtain ⟨i1, i2⟩ := bl_in (m := m) (ps := ps) (by omega) (show n7 = m by omega) h5 h6 h10 h11 qz23
   obtain ⟨j1, j2⟩ := bl_b i1 i2 (show n28 = ((q_11 + n_17 : Nat) : Int) by omega) h13 h14 qz36
   rw [j1] at j2
   exact ⟨blkE_ok (by omega) (h2.symm.trans c4) (by rw [j2]; omega)⟩
  refine ⟨h17, by first | omega | (dsimp only; omega), ?_⟩
  have h18 : z36.length = q_32 + (q_11 + n_17) := by
   obtain ⟨i1, i2⟩ := bl_in (m := m) (ps := ps) (by omega) (show n7 = m by omega) h5 h6 h10 h11 qz23
   obtain ⟨j1, j2⟩ := bl_b i1 i2 (show n28 = ((q_11 + n_17 : Nat) : Int) by omega) h13 h14 qz36
   exact j2
  refine ⟨h18, ?_⟩
  have h19 : z36 = blkB m ps ++ List.replicate (q_32 + (q_11 + n_17) - (blkB m ps).length) (0 : UInt8) := by
   obtain ⟨i1, i2⟩ := bl_in (m := m) (ps := ps) (by omega) (show n7 = m by omega) h5 h6 h10 h11 qz23
   obtain ⟨j1, j2⟩ := bl_b i1 i2 (show n28 = ((q_11 + n_17 : Nat) : Int) by omega) h13 h14 qz36
   exact pad_0 j1 j2
  refine ⟨h19, ?_⟩
  obtain ⟨i1, i2⟩ := bl_in (m := m) (ps := ps) (by omega) (show n7 = m by omega) h5 h6 h10 h11 qz23
  obtain ⟨j1, j2⟩ := bl_b i1 i2 (show n28 = ((q_11 + n_17 : Nat) : Int) by omega) h13 h14 qz36
  rw [j1] at j2
  rw [j2]; exact Nat.le_refl _
 intro v_44 h20 n46 q46 ⟨l46, u46⟩ n49 q49
 first | (rw [wrI64] at q49; rotate_left 1; · omega) | rw [IntKind.wrap_i64] at q49
 intro ⟨l49, u49⟩
 refine brd (fun c21 => ?_) (fun c21 => ?_)
 ·
  refine ⟨by first | omega | (dsimp only; omega), ?_⟩
  intro z52 qz52
  refine ⟨(v_44.fst + (1 : Nat), z52), rfl, rfl, rfl, rfl, rfl, rfl, rfl, ?_⟩
  refine ⟨?_, ?_⟩
  ·
   refine ⟨by show v_44.fst + (1 : Nat) ≤ (48 : Nat) * n.toNat; omega, ?_⟩
   have h22 : Laid g m n ps := by
    exact h20.2.1
   refine ⟨h22, by first | omega | (dsimp only; omega), ?_⟩
   have h23 : z52.length = v_44.fst + (1 : Nat) := by
    exact (pad_step h20.2.2.2.2.1 h20.2.2.2.1 h20.2.2.2.2.2 qz52).2
   refine ⟨h23, ?_⟩
   have h24 : z52 = blkB m ps ++ List.replicate (v_44.fst + (1 : Nat) - (blkB m ps).length) (0 : UInt8) := by
    exact (pad_step h20.2.2.2.2.1 h20.2.2.2.1 h20.2.2.2.2.2 qz52).1
   refine ⟨h24, ?_⟩
   exact by show (blkB m ps).length ≤ v_44.fst + (1 : Nat); omega
  exact by show (48 : Nat) * n.toNat - (v_44.fst + (1 : Nat)) < (48 : Nat) * n.toNat - v_44.fst; omega
 intro n54 q54 ⟨l54, u54⟩ n57 q57
 first | (rw [wrU64] at q57; rotate_left 1; · omega) | rw [IntKind.wrap_u64] at q57
 intro ⟨l57, u57⟩
 refine ⟨by exact ⟨by assumption, by assumption⟩, by first | omega | (dsimp only; omega), ?_⟩
 intro ys_60 q_61 e_62 h25 h26 h27 h28
 refine ⟨?_, ?_⟩
 ·
  refine ⟨((0 : Nat), [], List.take v_44.fst (List.drop (0 : Nat) v_44.snd), List.take q_61 (List.drop (0 : Nat) ys_60)), rfl, rfl, rfl, rfl, rfl, by show (0 : Int) = (↑(0 : Nat) : Int); omega, rfl, by show (0 : Nat) ≤ n.toNat; omega, ?_⟩
  have h29 : Laid g m n ps := by
   exact h20.2.1
  refine ⟨h29, by first | omega | (dsimp only; omega), ?_⟩
  have h30 : (List.take v_44.fst (List.drop (0 : Nat) v_44.snd)).length = (48 : Nat) * n.toNat := by
   rw [List.drop_zero, List.length_take]
   omega
  refine ⟨h30, ?_⟩
  have h31 : (List.take q_61 (List.drop (0 : Nat) ys_60)).length = (8 : Nat) := by
   have eg : List.take q_61 (List.drop 0 ys_60) = putL g.toNat 8 := by
    have i := blkE_0.1 h20.2.1.e
    rw [List.drop_zero, ← h26, List.take_length, h25, show n57 = g by omega]
    unfold putF
    rw [if_pos (putF_8 i.2.1)]
    rfl
   rw [eg, putL_len]
  refine ⟨h31, rfl, ?_⟩
  have eg : List.take q_61 (List.drop 0 ys_60) = putL g.toNat 8 := by
   have i := blkE_0.1 h20.2.1.e
   rw [List.drop_zero, ← h26, List.take_length, h25, show n57 = g by omega]
   unfold putF
   rw [if_pos (putF_8 i.2.1)]
   rfl
  exact bin_0 (pad_all h20.2.2.2.2.1 h20.2.2.2.1 (by omega)) eg
 intro v_67 h32
 refine brd (fun c33 => ?_) (fun c33 => ?_)
 ·
  refine ⟨by first | omega | (dsimp only; omega), ?_⟩
  intro z69 qz69 n71 q71
  first | (rw [wrI64] at q71; rotate_left 1; · omega) | rw [IntKind.wrap_i64] at q71
  intro ⟨l71, u71⟩ n74 q74
  first | (rw [wrI64] at q74; rotate_left 1; · omega) | rw [IntKind.wrap_i64] at q74
  intro ⟨l74, u74⟩ n77 q77
  first | (rw [wrI64] at q77; rotate_left 1; · omega) | rw [IntKind.wrap_i64] at q77
  intro ⟨l77, u77⟩
  have h34 : (0 : Int) ≤ n71 := by
   omega
  refine ⟨h34, ?_⟩
  have h35 : n71 ≤ n77 := by
   omega
  refine ⟨h35, ?_⟩
  have h36 : n77 ≤ (↑v_67.snd.snd.fst.length : Int) := by
   omega
  refine ⟨h36, ?_⟩
  have h37 : (v_67.snd.snd.snd.length + (List.drop n71.toNat (List.take n77.toNat v_67.snd.snd.fst)).length) * (1 : Nat) ≤ (140737488355328 : Nat) := by
   simp only [List.length_drop, List.length_take]
   omega
  refine ⟨h37, ?_⟩
  intro z80 qz80
  have h38 : (v_67.snd.snd.snd.length + (List.drop n71.toNat (List.take n77.toNat v_67.snd.snd.fst)).length + v_67.snd.snd.snd.length) * (1 : Nat) ≤ (140737488355328 : Nat) := by
   simp only [List.length_drop, List.length_take]
   omega
  refine ⟨h38, ?_⟩
  intro z82 qz82
  refine ⟨by first | omega | (dsimp only; omega), ?_⟩
  intro z84 qz84 n86 q86
  first | (rw [wrI64] at q86; rotate_left 1; · omega) | rw [IntKind.wrap_i64] at q86
  intro ⟨l86, u86⟩
  refine ⟨(v_67.fst + (1 : Nat), z84, v_67.snd.snd.fst, v_67.snd.snd.snd), rfl, rfl, rfl, rfl, rfl, by show n86 = (↑(v_67.fst + (1 : Nat)) : Int); omega, rfl, ?_⟩
  refine ⟨?_, ?_⟩
  ·
   refine ⟨by show v_67.fst + (1 : Nat) ≤ n.toNat; omega, ?_⟩
   have h39 : Laid g m n ps := by
    exact h32.2.1
   refine ⟨h39, by first | omega | (dsimp only; omega), by show v_67.snd.snd.fst.length = (48 : Nat) * n.toNat; omega, by show v_67.snd.snd.snd.length = (8 : Nat); omega, ?_⟩
   have h40 : z84.length = v_67.fst + (1 : Nat) := by
    obtain ⟨x1, x2⟩ := rb_x (i := v_67.fst) (g := g) h32.2.2.2.2.2.2.g (show n71 = _ by omega) (show n77 = _ by omega) qz69 qz80 qz82
    exact (bin_step h32.2.2.2.2.2.2 h32.2.2.2.2.2.1 x1 x2 qz84).2
   refine ⟨h40, ?_⟩
   obtain ⟨x1, x2⟩ := rb_x (i := v_67.fst) (g := g) h32.2.2.2.2.2.2.g (show n71 = _ by omega) (show n77 = _ by omega) qz69 qz80 qz82
   exact (bin_step h32.2.2.2.2.2.2 h32.2.2.2.2.2.1 x1 x2 qz84).1
  exact by show n.toNat - (v_67.fst + (1 : Nat)) < n.toNat - v_67.fst; omega
 have e : v_67.fst = n.toNat := by omega
 exact hk.2 h32.2.1.e _ _ (bin_end h32.2.2.2.2.2.2 h32.2.1 e) h32.2.2.2.2.2.1
theorem rblocks_ok : Holds Try.prog 12 blocksS := by
  refine fn_sound (env := mkEnv F4) (tab_ok F4_ok) Try.func12 Try.call12 fun args k h => ?_
  match args, h with
  | [.agg [.int .i64 g, .int .u8 m, .sl 10 ps], .int .i64 n], h => exact ⟨by kernel_rfl, rblocksLoops g m ps n, fun _ _ => none, .cast (by kernel_rfl) (rblocks_vc g m ps n h.1 k h.2)⟩
theorem rblocksT_ok : Holds Try.prog 12 blocksT := blocksr_up rblocks_ok
theorem F5_ok : TabOk Try.prog F5 := ⟨ends_ok, rread_ok, rpartsT_ok, rblocksT_ok, trivial⟩
set_option maxHeartbeats 2000000 in
theorem kept_vc (bl : List (List UInt8)) (hb : B64 bl) (k : AV → List (Option Blk) → List Blk → Prop) (hk : (∀ (g m : Int) (ps : List Plan), KF bl true g m ps → k (.tup [.agg [.int .i64 g, .int .u8 m, .sl 10 ps], .bool true]) [] []) ∧ (KF bl false (0 : Int) (0 : Int) [] → k (.tup [.agg [.int .i64 0, .int .u8 0, .nilsl], .bool false]) [] [])) : ((0 : Int) ≤ (0 : Int)) ∧ ((0 : Int) < (↑bl.length : Int)) ∧ ((bl.getD (Int.toNat (0 : Int)) (dflt 6)).length = 64) ∧ ∀ (n1 : Int), ∀ (y_2 : Int), (n1 = gV (List.take 8 (bl.getD (Int.toNat (0 : Int)) (dflt 6)))) → (y_2 = gV (List.drop 56 (bl.getD (Int.toNat (0 : Int)) (dflt 6)))) → (inK .u64 n1) → (inK .u64 y_2) → br (decide (n1 ≥ 4611686018427387904)) ((k (.tup [.agg [.int .i64 0, .int .u8 0, .nilsl], .bool false]) [] [])) ((∃ (v : Nat × Nat × List UInt8 × Int), (bl = bl) ∧ (n1 = v.snd.snd.snd) ∧ (0 = 0) ∧ (0 = v.snd.fst) ∧ ((0 : Int) = (↑v.fst : Int)) ∧ ([] = v.snd.snd.fst) ∧ ((0 : Int) = (0 : Int)) ∧ ((0 : Int) = (0 : Int)) ∧ (v.fst ≤ bl.length) ∧ ((1 ≤ bl.length) ∧ (bl.length ≤ 32)) ∧ (v.snd.fst = 48 * v.fst) ∧ ((0 ≤ v.snd.snd.snd) ∧ (v.snd.snd.snd < 4611686018427387904)) ∧ (v.snd.snd.fst.length = v.snd.fst) ∧ (GvI bl v.snd.snd.snd) ∧ (MidI bl v.fst v.snd.snd.fst)) ∧ ∀ (v_7 : Nat × Nat × List UInt8 × Int), (v_7.fst ≤ bl.length ∧ (1 ≤ bl.length ∧ bl.length ≤ 32) ∧ v_7.snd.fst = 48 * v_7.fst ∧ (0 ≤ v_7.snd.snd.snd ∧ v_7.snd.snd.snd < 4611686018427387904) ∧ v_7.snd.snd.fst.length = v_7.snd.fst ∧ GvI bl v_7.snd.snd.snd ∧ MidI bl v_7.fst v_7.snd.snd.fst) → ∀ (n9 : Int), (n9 = (↑bl.length : Int)) → (inK .i64 n9) → br (decide ((↑v_7.fst : Int) < n9)) (((0 : Int) ≤ (↑v_7.fst : Int)) ∧ ((↑v_7.fst : Int) < (↑bl.length : Int)) ∧ ((0 : Int) ≤ (8 : Int)) ∧ ((8 : Int) ≤ (56 : Int)) ∧ ((56 : Int) ≤ (↑(bl.getD (↑v_7.fst : Int).toNat (dflt 6)).length : Int)) ∧ ((v_7.snd.fst + (List.drop (Int.toNat (8 : Int)) (List.take (Int.toNat (56 : Int)) (bl.getD (↑v_7.fst : Int).toNat (dflt 6)))).length) * 1 ≤ 140737488355328) ∧ ∀ (z12 : List UInt8), (z12 = List.take v_7.snd.fst v_7.snd.snd.fst ++ List.drop (Int.toNat (8 : Int)) (List.take (Int.toNat (56 : Int)) (bl.getD (↑v_7.fst : Int).toNat (dflt 6)))) → ∀ (n14 : Int), (n14 = IntKind.i64.wrap ((↑v_7.fst : Int) + (1 : Int))) → (inK .i64 n14) → ∃ (v' : Nat × Nat × List UInt8 × Int), (bl = bl) ∧ (v_7.snd.snd.snd = v'.snd.snd.snd) ∧ (0 = 0) ∧ (v_7.snd.fst + (List.drop (Int.toNat (8 : Int)) (List.take (Int.toNat (56 : Int)) (bl.getD (↑v_7.fst : Int).toNat (dflt 6)))).length = v'.snd.fst) ∧ (n14 = (↑v'.fst : Int)) ∧ (z12 = v'.snd.snd.fst) ∧ ((0 : Int) = (0 : Int)) ∧ ((0 : Int) = (0 : Int)) ∧ ((v'.fst ≤ bl.length) ∧ ((1 ≤ bl.length) ∧ (bl.length ≤ 32)) ∧ (v'.snd.fst = 48 * v'.fst) ∧ ((0 ≤ v'.snd.snd.snd) ∧ (v'.snd.snd.snd < (4611686018427387904 : Int))) ∧ (v'.snd.snd.fst.length = v'.snd.fst) ∧ (GvI bl v'.snd.snd.snd) ∧ (MidI bl v'.fst v'.snd.snd.fst)) ∧ (bl.length - v'.fst < bl.length - v_7.fst)) (((List.take v_7.snd.fst (List.drop 0 v_7.snd.snd.fst)).length ≤ 1000000) ∧ ∀ (a_17 : Int), ∀ (b_18 : Int), ∀ (c_19 : Int), (a_17 = (↑(readG 0 0 (List.take v_7.snd.fst (List.drop 0 v_7.snd.snd.fst))).fst : Int)) → (b_18 = (↑(readG 0 0 (List.take v_7.snd.fst (List.drop 0 v_7.snd.snd.fst))).snd.fst : Int)) → (c_19 = (↑(readG 0 0 (List.take v_7.snd.fst (List.drop 0 v_7.snd.snd.fst))).snd.snd : Int)) → (inK .u64 a_17) → (0 ≤ b_18 ∧ b_18 ≤ 10) → (c_19 = 0 ∨ c_19 = 8) → ∀ (n26 : Int), (n26 = (↑v_7.snd.fst : Int)) → ∀ (n28 : Int), (n28 = IntKind.i64.wrap (n26 - b_18)) → ∀ (n30 : Int), (n30 = IntKind.u64.wrap n28) → br (bif bif c_19 != 0 then true else decide (a_17 < 1) then true else decide (a_17 > n30)) ((k (.tup [.agg [.int .i64 0, .int .u8 0, .nilsl], .bool false]) [] [])) (∀ (n32 : Int), (n32 = IntKind.i64.wrap a_17) → (inK .i64 n32) → ∀ (n35 : Int), (n35 = IntKind.i64.wrap (b_18 + n32)) → (inK .i64 n35) → (0 ≤ b_18) ∧ (b_18 ≤ n35) ∧ (n35 ≤ (↑v_7.snd.fst : Int)) ∧ ((List.take (n35.toNat - b_18.toNat) (List.drop (0 + b_18.toNat) v_7.snd.snd.fst)).length ≤ 1000000) ∧ ∀ (a_38 : Int), ∀ (b_39 : Int), ∀ (c_40 : Int), (a_38 = (↑(readG 0 0 (List.take (n35.toNat - b_18.toNat) (List.drop (0 + b_18.toNat) v_7.snd.snd.fst))).fst : Int)) → (b_39 = (↑(readG 0 0 (List.take (n35.toNat - b_18.toNat) (List.drop (0 + b_18.toNat) v_7.snd.snd.fst))).snd.fst : Int)) → (c_40 = (↑(readG 0 0 (List.take (n35.toNat - b_18.toNat) (List.drop (0 + b_18.toNat) v_7.snd.snd.fst))).snd.snd : Int)) → (inK .u64 a_38) → (0 ≤ b_39 ∧ b_39 ≤ 10) → (c_40 = 0 ∨ c_40 = 8) → br (bif c_40 != 0 then true else decide (a_38 > 3)) ((k (.tup [.agg [.int .i64 0, .int .u8 0, .nilsl], .bool false]) [] [])) ((0 ≤ b_39) ∧ (b_39 ≤ (↑(n35.toNat - b_18.toNat) : Int)) ∧ ((List.take (n35.toNat - b_18.toNat - b_39.toNat) (List.drop (0 + b_18.toNat + b_39.toNat) v_7.snd.snd.fst)).length ≤ 1000000) ∧ ∀ (e_47 : Int), ∀ (l_48 : List Plan), (St.PR (List.take (n35.toNat - b_18.toNat - b_39.toNat) (List.drop (0 + b_18.toNat + b_39.toNat) v_7.snd.snd.fst)) e_47 l_48) → (e_47 = 0 ∨ e_47 = 8) → (l_48.length ≤ 8) → br (e_47 != 0) ((k (.tup [.agg [.int .i64 0, .int .u8 0, .nilsl], .bool false]) [] [])) (∀ (n52 : Int), (n52 = IntKind.i64.wrap v_7.snd.snd.snd) → (inK .i64 n52) → ∀ (n55 : Int), (n55 = IntKind.u8.wrap a_38) → (inK .u8 n55) → ∀ (n58 : Int), (n58 = (↑bl.length : Int)) → (inK .i64 n58) → (((-9223372036854775808 ≤ n52) ∧ (n52 ≤ 9223372036854775807)) ∧ (0 ≤ n55) ∧ (n55 ≤ 255)) ∧ ∀ (e_61 : Int), ∀ (bl_62 : List (List UInt8)), (e_61 = blkE n52 n55 l_48 n58) → (bl_62 = blkO n52 n55 l_48 n58) → (0 ≤ e_61 ∧ e_61 ≤ 190) → ((e_61 = 0) → (bl_62.length = n58.toNat)) → br (e_61 != 0) ((k (.tup [.agg [.int .i64 0, .int .u8 0, .nilsl], .bool false]) [] [])) ((∃ (v : Nat × List (List UInt8) × Int × Int × List Plan), (bl = bl) ∧ (bl_62 = v.snd.fst) ∧ ((0 : Int) = (↑v.fst : Int)) ∧ ((0 : Int) = (0 : Int)) ∧ ((0 : Int) = (0 : Int)) ∧ (n52 = v.snd.snd.fst) ∧ (n55 = v.snd.snd.snd.fst) ∧ (l_48 = v.snd.snd.snd.snd) ∧ (v.fst ≤ bl.length) ∧ ((1 ≤ bl.length) ∧ (bl.length ≤ 32)) ∧ (v.snd.fst.length = bl.length) ∧ ((0 ≤ v.snd.snd.fst) ∧ (v.snd.snd.fst < 4611686018427387904)) ∧ ((0 ≤ v.snd.snd.snd.fst) ∧ (v.snd.snd.snd.fst ≤ 3)) ∧ (AgI bl v.snd.fst v.snd.snd.fst v.snd.snd.snd.fst v.snd.snd.snd.snd v.fst)) ∧ ∀ (v_67 : Nat × List (List UInt8) × Int × Int × List Plan), (v_67.fst ≤ bl.length ∧ (1 ≤ bl.length ∧ bl.length ≤ 32) ∧ v_67.snd.fst.length = bl.length ∧ (0 ≤ v_67.snd.snd.fst ∧ v_67.snd.snd.fst < 4611686018427387904) ∧ (0 ≤ v_67.snd.snd.snd.fst ∧ v_67.snd.snd.snd.fst ≤ 3) ∧ AgI bl v_67.snd.fst v_67.snd.snd.fst v_67.snd.snd.snd.fst v_67.snd.snd.snd.snd v_67.fst) → ∀ (n69 : Int), (n69 = (↑bl.length : Int)) → (inK .i64 n69) → br (decide ((↑v_67.fst : Int) < n69)) (((0 : Int) ≤ (↑v_67.fst : Int)) ∧ ((↑v_67.fst : Int) < (↑v_67.snd.fst.length : Int)) ∧ ((0 : Int) ≤ (↑v_67.fst : Int)) ∧ ((↑v_67.fst : Int) < (↑bl.length : Int)) ∧ br (!{ data := (v_67.snd.fst.getD (↑v_67.fst : Int).toNat (dflt 6)).toArray : ByteArray }.data.toList == { data := (bl.getD (↑v_67.fst : Int).toNat (dflt 6)).toArray : ByteArray }.data.toList) ((k (.tup [.agg [.int .i64 0, .int .u8 0, .nilsl], .bool false]) [] [])) (∀ (n72 : Int), (n72 = IntKind.i64.wrap ((↑v_67.fst : Int) + (1 : Int))) → (inK .i64 n72) → ∃ (v' : Nat × List (List UInt8) × Int × Int × List Plan), (bl = bl) ∧ (v_67.snd.fst = v'.snd.fst) ∧ (n72 = (↑v'.fst : Int)) ∧ ((0 : Int) = (0 : Int)) ∧ ((0 : Int) = (0 : Int)) ∧ (v_67.snd.snd.fst = v'.snd.snd.fst) ∧ (v_67.snd.snd.snd.fst = v'.snd.snd.snd.fst) ∧ (v_67.snd.snd.snd.snd = v'.snd.snd.snd.snd) ∧ ((v'.fst ≤ bl.length) ∧ ((1 ≤ bl.length) ∧ (bl.length ≤ 32)) ∧ (v'.snd.fst.length = bl.length) ∧ ((0 ≤ v'.snd.snd.fst) ∧ (v'.snd.snd.fst < (4611686018427387904 : Int))) ∧ ((0 ≤ v'.snd.snd.snd.fst) ∧ (v'.snd.snd.snd.fst ≤ (3 : Int))) ∧ (AgI bl v'.snd.fst v'.snd.snd.fst v'.snd.snd.snd.fst v'.snd.snd.snd.snd v'.fst)) ∧ (bl.length - v'.fst < bl.length - v_67.fst))) ((k (.tup [.agg [.int .i64 v_67.snd.snd.fst, .int .u8 v_67.snd.snd.snd.fst, .sl 10 v_67.snd.snd.snd.snd], .bool true]) [] [])))))))) := by
 refine ⟨by first | omega | (dsimp only; omega), ?_⟩
 have h1 : (0 : Int) < (↑bl.length : Int) := by
  have := hb.n; omega
 refine ⟨h1, ?_⟩
 have h2 : (bl.getD (Int.toNat (0 : Int)) (dflt (6 : Nat))).length = (64 : Nat) := by
  exact hb.get (by have := hb.n; omega)
 refine ⟨h2, ?_⟩
 intro n1 y_2 h3 h4 ⟨a5, b5⟩ ⟨a6, b6⟩
 refine brd (fun c7 => ?_) (fun c7 => ?_)
 ·
  exact hk.2 (kf_g (g := n1) ⟨h3⟩ (by omega))
 refine ⟨?_, ?_⟩
 ·
  refine ⟨(Int.toNat (0 : Int), (0 : Nat), [], n1), rfl, rfl, rfl, rfl, by show (0 : Int) = (↑(Int.toNat (0 : Int)) : Int); omega, rfl, rfl, rfl, by show Int.toNat (0 : Int) ≤ bl.length; omega, ?_⟩
  refine ⟨?_, ?_⟩
  ·
   refine ⟨by show (1 : Nat) ≤ bl.length; omega, ?_⟩
   exact hb.n.2
  refine ⟨by show (0 : Nat) = (48 : Nat) * Int.toNat (0 : Int); omega, by first | omega | (dsimp only; omega), rfl, ?_⟩
  have h8 : GvI bl n1 := by
   exact ⟨h3⟩
  refine ⟨h8, ?_⟩
  exact mid_0 bl
 intro v_7 h9 n9 q9 ⟨l9, u9⟩
 refine brd (fun c10 => ?_) (fun c10 => ?_)
 ·
  refine ⟨by first | omega | (dsimp only; omega), by first | omega | (dsimp only; omega), by first | omega | (dsimp only; omega), by first | omega | (dsimp only; omega), ?_⟩
  have h11 : (56 : Int) ≤ (↑(bl.getD (↑v_7.fst : Int).toNat (dflt (6 : Nat))).length : Int) := by
   have e1 : (bl.getD (v_7.fst : Int).toNat (dflt 6)).length = 64 := hb.get (by omega)
   omega
  refine ⟨h11, ?_⟩
  have h12 : (v_7.snd.fst + (List.drop (Int.toNat (8 : Int)) (List.take (Int.toNat (56 : Int)) (bl.getD (↑v_7.fst : Int).toNat (dflt (6 : Nat))))).length) * (1 : Nat) ≤ (140737488355328 : Nat) := by
   have e1 : (bl.getD (v_7.fst : Int).toNat (dflt 6)).length = 64 := hb.get (by omega)
   simp only [List.length_drop, List.length_take]
   omega
  refine ⟨h12, ?_⟩
  intro z12 qz12 n14 q14
  first | (rw [wrI64] at q14; rotate_left 1; · omega) | rw [IntKind.wrap_i64] at q14
  intro ⟨l14, u14⟩
  refine ⟨(n14.toNat, v_7.snd.fst + (List.drop (Int.toNat (8 : Int)) (List.take (Int.toNat (56 : Int)) (bl.getD (↑v_7.fst : Int).toNat (dflt (6 : Nat))))).length, z12, v_7.snd.snd.snd), rfl, rfl, rfl, rfl, by show n14 = (↑n14.toNat : Int); omega, rfl, rfl, rfl, ?_⟩
  refine ⟨?_, ?_⟩
  ·
   refine ⟨by show n14.toNat ≤ bl.length; omega, by first | omega | (dsimp only; omega), ?_⟩
   have h13 : v_7.snd.fst + (List.drop (Int.toNat (8 : Int)) (List.take (Int.toNat (56 : Int)) (bl.getD (↑v_7.fst : Int).toNat (dflt (6 : Nat))))).length = (48 : Nat) * n14.toNat := by
    have e1 : (bl.getD (v_7.fst : Int).toNat (dflt 6)).length = 64 := hb.get (by omega)
    simp only [List.length_drop, List.length_take]
    omega
   refine ⟨h13, by first | omega | (dsimp only; omega), ?_⟩
   have h14 : z12.length = v_7.snd.fst + (List.drop (Int.toNat (8 : Int)) (List.take (Int.toNat (56 : Int)) (bl.getD (↑v_7.fst : Int).toNat (dflt (6 : Nat))))).length := by
    rw [qz12, List.length_append, List.length_take]
    omega
   refine ⟨h14, ?_⟩
   have h15 : GvI bl v_7.snd.snd.snd := by
    exact h9.2.2.2.2.2.1
   refine ⟨h15, ?_⟩
   have ei : n14.toNat = v_7.fst + 1 := by omega
   rw [ei]
   refine mid_step h9.2.2.2.2.2.2 (by omega) h9.2.2.2.2.1 ?_
   rw [qz12, List.drop_take, Int.toNat_natCast]
   rfl
  exact by show bl.length - n14.toNat < bl.length - v_7.fst; omega
 have h16 : (List.take v_7.snd.fst (List.drop (0 : Nat) v_7.snd.snd.fst)).length ≤ (1000000 : Nat) := by
  simp only [List.length_take, List.length_drop]
  omega
 refine ⟨h16, ?_⟩
 intro a_17 b_18 c_19 h17 h18 h19 ⟨a20, b20⟩ ⟨a21, b21⟩ h22 n26 q26 n28 q28
 first | (rw [wrI64] at q28; rotate_left 1; · omega) | rw [IntKind.wrap_i64] at q28
 intro n30 q30
 first | (rw [wrU64] at q30; rotate_left 1; · omega) | rw [IntKind.wrap_u64] at q30
 refine br_intro (fun c23 => ?_) (fun c23 => ?_)
 ·
  simp at c23
  have e0 : List.take v_7.snd.fst (List.drop 0 v_7.snd.snd.fst) = v_7.snd.snd.fst := by rw [List.drop_zero, ← h9.2.2.2.2.1, List.take_length]
  rw [e0] at h17 h18 h19
  have hx : v_7.snd.snd.fst = midL bl := mid_all h9.2.2.2.2.2.2 (by omega)
  have hl : v_7.snd.snd.fst.length = 48 * bl.length := by omega
  exact hk.2 (kf_1 hx h17 h18 h19 (by omega))
 simp at c23
 intro n32 q32
 first | (rw [wrI64] at q32; rotate_left 1; · omega) | rw [IntKind.wrap_i64] at q32
 intro ⟨l32, u32⟩ n35 q35
 first | (rw [wrI64] at q35; rotate_left 1; · omega) | rw [IntKind.wrap_i64] at q35
 intro ⟨l35, u35⟩
 refine ⟨by assumption, ?_⟩
 have h24 : b_18 ≤ n35 := by
  omega
 refine ⟨h24, by first | omega | (dsimp only; omega), ?_⟩
 have h25 : (List.take (n35.toNat - b_18.toNat) (List.drop ((0 : Nat) + b_18.toNat) v_7.snd.snd.fst)).length ≤ (1000000 : Nat) := by
  simp only [List.length_drop, List.length_take]
  omega
 refine ⟨h25, ?_⟩
 intro a_38 b_39 c_40 h26 h27 h28 ⟨a29, b29⟩ ⟨a30, b30⟩ h31
 refine br_intro (fun c32 => ?_) (fun c32 => ?_)
 ·
  simp at c32
  have e0 : List.take v_7.snd.fst (List.drop 0 v_7.snd.snd.fst) = v_7.snd.snd.fst := by rw [List.drop_zero, ← h9.2.2.2.2.1, List.take_length]
  rw [e0] at h17 h18 h19
  have hx : v_7.snd.snd.fst = midL bl := mid_all h9.2.2.2.2.2.2 (by omega)
  have hl : v_7.snd.snd.fst.length = 48 * bl.length := by omega
  have hy : List.take (n35.toNat - b_18.toNat) (List.drop (0 + b_18.toNat) v_7.snd.snd.fst) = inL v_7.snd.snd.fst := in_is h17 h18 (by rw [Nat.zero_add, show n35.toNat - b_18.toNat = a_17.toNat by omega])
  exact hk.2 (kf_2 hx hy h26 h28 (by omega))
 simp at c32
 refine ⟨by assumption, ?_⟩
 have h33 : b_39 ≤ (↑(n35.toNat - b_18.toNat) : Int) := by
  have r := rd_le h27 h28 (by omega)
  simp only [List.length_take, List.length_drop] at r
  omega
 refine ⟨h33, ?_⟩
 have h34 : (List.take (n35.toNat - b_18.toNat - b_39.toNat) (List.drop ((0 : Nat) + b_18.toNat + b_39.toNat) v_7.snd.snd.fst)).length ≤ (1000000 : Nat) := by
  simp only [List.length_drop, List.length_take]
  omega
 refine ⟨h34, ?_⟩
 intro e_47 l_48 h35 h36 h37
 refine br_intro (fun c38 => ?_) (fun c38 => ?_)
 ·
  simp at c38
  have e0 : List.take v_7.snd.fst (List.drop 0 v_7.snd.snd.fst) = v_7.snd.snd.fst := by rw [List.drop_zero, ← h9.2.2.2.2.1, List.take_length]
  rw [e0] at h17 h18 h19
  have hx : v_7.snd.snd.fst = midL bl := mid_all h9.2.2.2.2.2.2 (by omega)
  have hl : v_7.snd.snd.fst.length = 48 * bl.length := by omega
  have hy : List.take (n35.toNat - b_18.toNat) (List.drop (0 + b_18.toNat) v_7.snd.snd.fst) = inL v_7.snd.snd.fst := in_is h17 h18 (by rw [Nat.zero_add, show n35.toNat - b_18.toNat = a_17.toNat by omega])
  have hu : List.take (n35.toNat - b_18.toNat - b_39.toNat) (List.drop (0 + b_18.toNat + b_39.toNat) v_7.snd.snd.fst) = (List.take (n35.toNat - b_18.toNat) (List.drop (0 + b_18.toNat) v_7.snd.snd.fst)).drop b_39.toNat := by rw [List.drop_take, List.drop_drop]
  exact hk.2 (kf_3 hx hy h27 hu h35 c38)
 simp at c38
 intro n52 q52
 first | (rw [wrI64] at q52; rotate_left 1; · omega) | rw [IntKind.wrap_i64] at q52
 intro ⟨l52, u52⟩ n55 q55
 first | (rw [wrU8] at q55; rotate_left 1; · omega) | rw [IntKind.wrap_u8] at q55
 intro ⟨l55, u55⟩ n58 q58 ⟨l58, u58⟩
 refine ⟨?_, ?_⟩
 ·
  refine ⟨by exact ⟨by assumption, by assumption⟩, by assumption, ?_⟩
  exact by assumption
 intro e_61 bl_62 h39 h40 ⟨a41, b41⟩ h42
 refine br_intro (fun c43 => ?_) (fun c43 => ?_)
 ·
  simp at c43
  have e0 : List.take v_7.snd.fst (List.drop 0 v_7.snd.snd.fst) = v_7.snd.snd.fst := by rw [List.drop_zero, ← h9.2.2.2.2.1, List.take_length]
  rw [e0] at h17 h18 h19
  have hx : v_7.snd.snd.fst = midL bl := mid_all h9.2.2.2.2.2.2 (by omega)
  have hl : v_7.snd.snd.fst.length = 48 * bl.length := by omega
  have hy : List.take (n35.toNat - b_18.toNat) (List.drop (0 + b_18.toNat) v_7.snd.snd.fst) = inL v_7.snd.snd.fst := in_is h17 h18 (by rw [Nat.zero_add, show n35.toNat - b_18.toNat = a_17.toNat by omega])
  have hu : List.take (n35.toNat - b_18.toNat - b_39.toNat) (List.drop (0 + b_18.toNat + b_39.toNat) v_7.snd.snd.fst) = (List.take (n35.toNat - b_18.toNat) (List.drop (0 + b_18.toNat) v_7.snd.snd.fst)).drop b_39.toNat := by rw [List.drop_take, List.drop_drop]
  rw [c38] at h35
  have g1 : GvI bl n52 := by rw [show n52 = v_7.snd.snd.snd by omega]; exact h9.2.2.2.2.2.1
  have D := dc_of g1 hx hy h26 h27 hu h35
  rw [show a_38 = n55 by omega] at D
  rw [q58] at h39 h40
  exact hk.2 (kf_4 D h39 c43)
 simp at c43
 refine ⟨?_, ?_⟩
 ·
  refine ⟨(Int.toNat (0 : Int), bl_62, n52, n55, l_48), rfl, rfl, by show (0 : Int) = (↑(Int.toNat (0 : Int)) : Int); omega, rfl, rfl, rfl, rfl, rfl, by show Int.toNat (0 : Int) ≤ bl.length; omega, by first | omega | (dsimp only; omega), by show bl_62.length = bl.length; omega, by first | omega | (dsimp only; omega), by first | omega | (dsimp only; omega), ?_⟩
  have e0 : List.take v_7.snd.fst (List.drop 0 v_7.snd.snd.fst) = v_7.snd.snd.fst := by rw [List.drop_zero, ← h9.2.2.2.2.1, List.take_length]
  rw [e0] at h17 h18 h19
  have hx : v_7.snd.snd.fst = midL bl := mid_all h9.2.2.2.2.2.2 (by omega)
  have hl : v_7.snd.snd.fst.length = 48 * bl.length := by omega
  have hy : List.take (n35.toNat - b_18.toNat) (List.drop (0 + b_18.toNat) v_7.snd.snd.fst) = inL v_7.snd.snd.fst := in_is h17 h18 (by rw [Nat.zero_add, show n35.toNat - b_18.toNat = a_17.toNat by omega])
  have hu : List.take (n35.toNat - b_18.toNat - b_39.toNat) (List.drop (0 + b_18.toNat + b_39.toNat) v_7.snd.snd.fst) = (List.take (n35.toNat - b_18.toNat) (List.drop (0 + b_18.toNat) v_7.snd.snd.fst)).drop b_39.toNat := by rw [List.drop_take, List.drop_drop]
  rw [c38] at h35
  have g1 : GvI bl n52 := by rw [show n52 = v_7.snd.snd.snd by omega]; exact h9.2.2.2.2.2.1
  have D := dc_of g1 hx hy h26 h27 hu h35
  rw [show a_38 = n55 by omega] at D
  rw [q58] at h39 h40
  exact ag_0 D h39 c43 h40
 intro v_67 h44 n69 q69 ⟨l69, u69⟩
 refine brd (fun c45 => ?_) (fun c45 => ?_)
 ·
  refine ⟨by first | omega | (dsimp only; omega), by first | omega | (dsimp only; omega), by first | omega | (dsimp only; omega), by first | omega | (dsimp only; omega), ?_⟩
  refine br_intro (fun c46 => ?_) (fun c46 => ?_)
  ·
   simp at c46
   exact hk.2 (ag_bad h44.2.2.2.2.2 (i := v_67.fst) (by rw [List.getD_eq_getElem?_getD, List.getD_eq_getElem?_getD]; exact c46))
  simp at c46
  intro n72 q72
  first | (rw [wrI64] at q72; rotate_left 1; · omega) | rw [IntKind.wrap_i64] at q72
  intro ⟨l72, u72⟩
  refine ⟨(n72.toNat, v_67.snd.fst, v_67.snd.snd.fst, v_67.snd.snd.snd.fst, v_67.snd.snd.snd.snd), rfl, rfl, by show n72 = (↑n72.toNat : Int); omega, rfl, rfl, rfl, rfl, rfl, ?_⟩
  refine ⟨?_, ?_⟩
  ·
   refine ⟨by show n72.toNat ≤ bl.length; omega, by first | omega | (dsimp only; omega), by show v_67.snd.fst.length = bl.length; omega, by first | omega | (dsimp only; omega), by first | omega | (dsimp only; omega), ?_⟩
   rw [show n72.toNat = v_67.fst + 1 by omega]
   exact ag_step h44.2.2.2.2.2 (by omega) h44.2.2.1 (by rw [List.getD_eq_getElem?_getD, List.getD_eq_getElem?_getD]; exact c46)
  exact by show bl.length - n72.toNat < bl.length - v_67.fst; omega
 exact hk.1 _ _ _ (ag_end h44.2.2.2.2.2 (by omega) (by omega) h44.2.2.1)
theorem kept_ok : Holds Try.prog 51 keptS := by
  refine fn_sound (env := mkEnv F5) (tab_ok F5_ok) Try.func51 Try.call51 fun args k h => ?_
  match args, h with
  | [.sl 6 bl], h => exact ⟨by kernel_rfl, keptLoops bl, fun _ _ => none, .cast (by kernel_rfl) (kept_vc bl h.1 k h.2)⟩
theorem keptT_ok : Holds Try.prog 51 keptT := kept_up kept_ok
set_option maxHeartbeats 2000000 in
theorem newest_vc (g : Int) (bl : List (List UInt8)) (hb : B64 bl ∧ 0 ≤ g ∧ g ≤ 4611686018427387903) (k : AV → List (Option Blk) → List Blk → Prop) (hk : ∀ (r : Int), Nx g bl r → 1 ≤ r ∧ r ≤ 4611686018427387936 → k (.int .i64 r) [] []) : (∃ (v : Nat × Int), (g = v.snd) ∧ (bl = bl) ∧ ((0 : Int) = (↑v.fst : Int)) ∧ (v.fst ≤ bl.length) ∧ ((1 ≤ bl.length) ∧ (bl.length ≤ 32)) ∧ ((0 ≤ v.snd) ∧ (v.snd ≤ 4611686018427387903)) ∧ (MxI g bl v.fst v.snd)) ∧ ∀ (v_1 : Nat × Int), (v_1.fst ≤ bl.length ∧ (1 ≤ bl.length ∧ bl.length ≤ 32) ∧ (0 ≤ v_1.snd ∧ v_1.snd ≤ 4611686018427387903) ∧ MxI g bl v_1.fst v_1.snd) → ∀ (n3 : Int), (n3 = (↑bl.length : Int)) → (inK .i64 n3) → br (decide ((↑v_1.fst : Int) < n3)) (((0 : Int) ≤ (↑v_1.fst : Int)) ∧ ((↑v_1.fst : Int) < (↑bl.length : Int)) ∧ ((bl.getD (↑v_1.fst : Int).toNat (dflt 6)).length = 64) ∧ ∀ (n6 : Int), ∀ (y_7 : Int), (n6 = gV (List.take 8 (bl.getD (↑v_1.fst : Int).toNat (dflt 6)))) → (y_7 = gV (List.drop 56 (bl.getD (↑v_1.fst : Int).toNat (dflt 6)))) → (inK .u64 n6) → (inK .u64 y_7) → br (decide (n6 < 4611686018427387904)) (∀ (n12 : Int), (n12 = IntKind.i64.wrap n6) → (inK .i64 n12) → ∀ (n15 : Int), (n15 = max v_1.snd n12) → (inK .i64 n15) → br (decide (y_7 < 4611686018427387904)) (∀ (n18 : Int), (n18 = IntKind.i64.wrap y_7) → (inK .i64 n18) → ∀ (n21 : Int), (n21 = max n15 n18) → (inK .i64 n21) → ∀ (n24 : Int), (n24 = IntKind.i64.wrap ((↑v_1.fst : Int) + (1 : Int))) → (inK .i64 n24) → ∃ (v' : Nat × Int), (n21 = v'.snd) ∧ (bl = bl) ∧ (n24 = (↑v'.fst : Int)) ∧ ((v'.fst ≤ bl.length) ∧ ((1 ≤ bl.length) ∧ (bl.length ≤ 32)) ∧ ((0 ≤ v'.snd) ∧ (v'.snd ≤ (4611686018427387903 : Int))) ∧ (MxI g bl v'.fst v'.snd)) ∧ (bl.length - v'.fst < bl.length - v_1.fst)) (∀ (n27 : Int), (n27 = IntKind.i64.wrap ((↑v_1.fst : Int) + (1 : Int))) → (inK .i64 n27) → ∃ (v' : Nat × Int), (n15 = v'.snd) ∧ (bl = bl) ∧ (n27 = (↑v'.fst : Int)) ∧ ((v'.fst ≤ bl.length) ∧ ((1 ≤ bl.length) ∧ (bl.length ≤ 32)) ∧ ((0 ≤ v'.snd) ∧ (v'.snd ≤ (4611686018427387903 : Int))) ∧ (MxI g bl v'.fst v'.snd)) ∧ (bl.length - v'.fst < bl.length - v_1.fst))) (br (decide (y_7 < 4611686018427387904)) (∀ (n30 : Int), (n30 = IntKind.i64.wrap y_7) → (inK .i64 n30) → ∀ (n33 : Int), (n33 = max v_1.snd n30) → (inK .i64 n33) → ∀ (n36 : Int), (n36 = IntKind.i64.wrap ((↑v_1.fst : Int) + (1 : Int))) → (inK .i64 n36) → ∃ (v' : Nat × Int), (n33 = v'.snd) ∧ (bl = bl) ∧ (n36 = (↑v'.fst : Int)) ∧ ((v'.fst ≤ bl.length) ∧ ((1 ≤ bl.length) ∧ (bl.length ≤ 32)) ∧ ((0 ≤ v'.snd) ∧ (v'.snd ≤ (4611686018427387903 : Int))) ∧ (MxI g bl v'.fst v'.snd)) ∧ (bl.length - v'.fst < bl.length - v_1.fst)) (∀ (n39 : Int), (n39 = IntKind.i64.wrap ((↑v_1.fst : Int) + (1 : Int))) → (inK .i64 n39) → ∃ (v' : Nat × Int), (v_1.snd = v'.snd) ∧ (bl = bl) ∧ (n39 = (↑v'.fst : Int)) ∧ ((v'.fst ≤ bl.length) ∧ ((1 ≤ bl.length) ∧ (bl.length ≤ 32)) ∧ ((0 ≤ v'.snd) ∧ (v'.snd ≤ (4611686018427387903 : Int))) ∧ (MxI g bl v'.fst v'.snd)) ∧ (bl.length - v'.fst < bl.length - v_1.fst)))) ((∃ (v : Int), (v_1.snd = v) ∧ (bl = bl) ∧ ((1 ≤ bl.length) ∧ (bl.length ≤ 32)) ∧ ((0 ≤ v) ∧ (v ≤ 4611686018427387935)) ∧ ((0 ≤ mxL g bl) ∧ (mxL g bl ≤ 4611686018427387903) ∧ (mxL g bl ≤ v) ∧ (v ≤ mxL g bl + 32)) ∧ (Sx g bl (v + 1))) ∧ ∀ (v_42 : Int), ((1 ≤ bl.length ∧ bl.length ≤ 32) ∧ (0 ≤ v_42 ∧ v_42 ≤ 4611686018427387935) ∧ (0 ≤ mxL g bl ∧ mxL g bl ≤ 4611686018427387903 ∧ mxL g bl ≤ v_42 ∧ v_42 ≤ mxL g bl + 32) ∧ Sx g bl (v_42 + 1)) → ∀ (n44 : Int), (n44 = IntKind.i64.wrap (v_42 + 1)) → (inK .i64 n44) → (∃ (v : Nat × Bool), (n44 = (↑v_42.toNat : Int) + (1 : Int)) ∧ (bl = bl) ∧ (true = v.snd) ∧ ((0 : Int) = (↑v.fst : Int)) ∧ (v.fst ≤ bl.length) ∧ ((1 ≤ bl.length) ∧ (bl.length ≤ 32)) ∧ (v_42.toNat ≤ 4611686018427387935) ∧ (FrI bl v.fst ((↑v_42.toNat : Int) + (1 : Int)) v.snd)) ∧ ∀ (v_47 : Nat × Bool), (v_47.fst ≤ bl.length ∧ (1 ≤ bl.length ∧ bl.length ≤ 32) ∧ v_42.toNat ≤ 4611686018427387935 ∧ FrI bl v_47.fst ((↑v_42.toNat : Int) + (1 : Int)) v_47.snd) → ∀ (n49 : Int), (n49 = (↑bl.length : Int)) → (inK .i64 n49) → br (decide ((↑v_47.fst : Int) < n49)) (((0 : Int) ≤ (↑v_47.fst : Int)) ∧ ((↑v_47.fst : Int) < (↑bl.length : Int)) ∧ ((bl.getD (↑v_47.fst : Int).toNat (dflt 6)).length = 64) ∧ ∀ (n52 : Int), ∀ (y_53 : Int), (n52 = gV (List.take 8 (bl.getD (↑v_47.fst : Int).toNat (dflt 6)))) → (y_53 = gV (List.drop 56 (bl.getD (↑v_47.fst : Int).toNat (dflt 6)))) → (inK .u64 n52) → (inK .u64 y_53) → ((v_47.snd = true) → ((256 : Int) ≠ (0 : Int))) ∧ ∀ (n58 : Int), (n58 = y_53.tmod (256 : Int)) → ∀ (n60 : Int), (n60 = IntKind.u64.wrap ((↑v_42.toNat : Int) + (1 : Int))) → ((v_47.snd = true) → ((256 : Int) ≠ (0 : Int))) ∧ ∀ (n62 : Int), (n62 = n60.tmod (256 : Int)) → ∀ (n64 : Int), (n64 = IntKind.i64.wrap ((↑v_47.fst : Int) + (1 : Int))) → (inK .i64 n64) → ∃ (v' : Nat × Bool), ((↑v_42.toNat : Int) + (1 : Int) = (↑v_42.toNat : Int) + (1 : Int)) ∧ (bl = bl) ∧ ((bif v_47.snd then n58 != n62 else false) = v'.snd) ∧ (n64 = (↑v'.fst : Int)) ∧ ((v'.fst ≤ bl.length) ∧ ((1 ≤ bl.length) ∧ (bl.length ≤ 32)) ∧ (v_42.toNat ≤ 4611686018427387935) ∧ (FrI bl v'.fst ((↑v_42.toNat : Int) + (1 : Int)) v'.snd)) ∧ (bl.length - v'.fst < bl.length - v_47.fst)) (br (v_47.snd) ((k (.int .i64 ((↑v_42.toNat : Int) + (1 : Int))) [] [])) (∃ (v' : Int), ((↑v_42.toNat : Int) + 1 = v') ∧ (bl = bl) ∧ (((1 ≤ bl.length) ∧ (bl.length ≤ 32)) ∧ ((0 ≤ v') ∧ (v' ≤ (4611686018427387935 : Int))) ∧ ((0 ≤ mxL g bl) ∧ (mxL g bl ≤ 4611686018427387903) ∧ (mxL g bl ≤ v') ∧ (v' ≤ mxL g bl + 32)) ∧ (Sx g bl (v' + (1 : Int)))) ∧ ((mxL g bl + 33 - v').toNat < (mxL g bl + 33 - v_42).toNat)))) := by
 refine ⟨?_, ?_⟩
 ·
  refine ⟨(Int.toNat (0 : Int), g), rfl, rfl, by show (0 : Int) = (↑(Int.toNat (0 : Int)) : Int); omega, by show Int.toNat (0 : Int) ≤ bl.length; omega, ?_⟩
  refine ⟨?_, ?_⟩
  ·
   have h1 : (1 : Nat) ≤ bl.length := by
    exact hb.1.n.1
   refine ⟨h1, ?_⟩
   exact hb.1.n.2
  refine ⟨by first | omega | (dsimp only; omega), ?_⟩
  exact mx_0 _ _
 intro v_1 h2 n3 q3 ⟨l3, u3⟩
 refine brd (fun c3 => ?_) (fun c3 => ?_)
 ·
  refine ⟨by first | omega | (dsimp only; omega), by first | omega | (dsimp only; omega), ?_⟩
  have h4 : (bl.getD (↑v_1.fst : Int).toNat (dflt (6 : Nat))).length = (64 : Nat) := by
   exact hb.1.get (i := v_1.fst) (by omega)
  refine ⟨h4, ?_⟩
  intro n6 y_7 h5 h6 ⟨a7, b7⟩ ⟨a8, b8⟩
  refine brd (fun c9 => ?_) (fun c9 => ?_)
  ·
   intro n12 q12
   first | (rw [wrI64] at q12; rotate_left 1; · omega) | rw [IntKind.wrap_i64] at q12
   intro ⟨l12, u12⟩ n15 q15 ⟨l15, u15⟩
   refine brd (fun c10 => ?_) (fun c10 => ?_)
   ·
    intro n18 q18
    first | (rw [wrI64] at q18; rotate_left 1; · omega) | rw [IntKind.wrap_i64] at q18
    intro ⟨l18, u18⟩ n21 q21 ⟨l21, u21⟩ n24 q24
    first | (rw [wrI64] at q24; rotate_left 1; · omega) | rw [IntKind.wrap_i64] at q24
    intro ⟨l24, u24⟩
    refine ⟨(n24.toNat, n21), rfl, rfl, by show n24 = (↑n24.toNat : Int); omega, ?_⟩
    refine ⟨?_, ?_⟩
    ·
     refine ⟨by show n24.toNat ≤ bl.length; omega, by first | omega | (dsimp only; omega), by first | omega | (dsimp only; omega), ?_⟩
     have ei : n24.toNat = v_1.fst + 1 := by omega
     rw [ei]
     rw [Int.toNat_natCast] at h5 h6
     exact mx_step h2.2.2.2 (by omega) h5 h6 (by unfold mxE; omega)
    exact by show bl.length - n24.toNat < bl.length - v_1.fst; omega
   intro n27 q27
   first | (rw [wrI64] at q27; rotate_left 1; · omega) | rw [IntKind.wrap_i64] at q27
   intro ⟨l27, u27⟩
   refine ⟨(n27.toNat, n15), rfl, rfl, by show n27 = (↑n27.toNat : Int); omega, ?_⟩
   refine ⟨?_, ?_⟩
   ·
    refine ⟨by show n27.toNat ≤ bl.length; omega, by first | omega | (dsimp only; omega), by first | omega | (dsimp only; omega), ?_⟩
    have ei : n27.toNat = v_1.fst + 1 := by omega
    rw [ei]
    rw [Int.toNat_natCast] at h5 h6
    exact mx_step h2.2.2.2 (by omega) h5 h6 (by unfold mxE; omega)
   exact by show bl.length - n27.toNat < bl.length - v_1.fst; omega
  refine brd (fun c11 => ?_) (fun c11 => ?_)
  ·
   intro n30 q30
   first | (rw [wrI64] at q30; rotate_left 1; · omega) | rw [IntKind.wrap_i64] at q30
   intro ⟨l30, u30⟩ n33 q33 ⟨l33, u33⟩ n36 q36
   first | (rw [wrI64] at q36; rotate_left 1; · omega) | rw [IntKind.wrap_i64] at q36
   intro ⟨l36, u36⟩
   refine ⟨(n36.toNat, n33), rfl, rfl, by show n36 = (↑n36.toNat : Int); omega, ?_⟩
   refine ⟨?_, ?_⟩
   ·
    refine ⟨by show n36.toNat ≤ bl.length; omega, by first | omega | (dsimp only; omega), by first | omega | (dsimp only; omega), ?_⟩
    have ei : n36.toNat = v_1.fst + 1 := by omega
    rw [ei]
    rw [Int.toNat_natCast] at h5 h6
    exact mx_step h2.2.2.2 (by omega) h5 h6 (by unfold mxE; omega)
   exact by show bl.length - n36.toNat < bl.length - v_1.fst; omega
  intro n39 q39
  first | (rw [wrI64] at q39; rotate_left 1; · omega) | rw [IntKind.wrap_i64] at q39
  intro ⟨l39, u39⟩
  refine ⟨(n39.toNat, v_1.snd), rfl, rfl, by show n39 = (↑n39.toNat : Int); omega, ?_⟩
  refine ⟨?_, ?_⟩
  ·
   refine ⟨by show n39.toNat ≤ bl.length; omega, by first | omega | (dsimp only; omega), by first | omega | (dsimp only; omega), ?_⟩
   have ei : n39.toNat = v_1.fst + 1 := by omega
   rw [ei]
   rw [Int.toNat_natCast] at h5 h6
   exact mx_step h2.2.2.2 (by omega) h5 h6 (by unfold mxE; omega)
  exact by show bl.length - n39.toNat < bl.length - v_1.fst; omega
 refine ⟨?_, ?_⟩
 ·
  refine ⟨v_1.snd, rfl, rfl, by first | omega | (dsimp only; omega), by first | omega | (dsimp only; omega), ?_⟩
  refine ⟨?_, ?_⟩
  ·
   have h12 : (0 : Int) ≤ mxL g bl := by
    have i := mxL_in (bl := bl) (g := g) (by omega)
    have e := mx_all h2.2.2.2 (by omega)
    omega
   refine ⟨h12, ?_⟩
   have h13 : mxL g bl ≤ (4611686018427387903 : Int) := by
    have i := mxL_in (bl := bl) (g := g) (by omega)
    have e := mx_all h2.2.2.2 (by omega)
    omega
   refine ⟨h13, ?_⟩
   have h14 : mxL g bl ≤ v_1.snd := by
    have i := mxL_in (bl := bl) (g := g) (by omega)
    have e := mx_all h2.2.2.2 (by omega)
    omega
   refine ⟨h14, ?_⟩
   have i := mxL_in (bl := bl) (g := g) (by omega)
   have e := mx_all h2.2.2.2 (by omega)
   omega
  have i := mxL_in (bl := bl) (g := g) (by omega)
  have e := mx_all h2.2.2.2 (by omega)
  rw [e]; exact sx_0 _ _
 intro v_42 h15 n44 q44
 first | (rw [wrI64] at q44; rotate_left 1; · omega) | rw [IntKind.wrap_i64] at q44
 intro ⟨l44, u44⟩
 refine ⟨?_, ?_⟩
 ·
  refine ⟨(Int.toNat (0 : Int), true), by show n44 = (↑v_42.toNat : Int) + (1 : Int); omega, rfl, rfl, by show (0 : Int) = (↑(Int.toNat (0 : Int)) : Int); omega, by show Int.toNat (0 : Int) ≤ bl.length; omega, by first | omega | (dsimp only; omega), by show v_42.toNat ≤ (4611686018427387935 : Nat); omega, ?_⟩
  exact fr_0 _ _
 intro v_47 h16 n49 q49 ⟨l49, u49⟩
 refine brd (fun c17 => ?_) (fun c17 => ?_)
 ·
  refine ⟨by first | omega | (dsimp only; omega), by first | omega | (dsimp only; omega), ?_⟩
  have h18 : (bl.getD (↑v_47.fst : Int).toNat (dflt (6 : Nat))).length = (64 : Nat) := by
   exact hb.1.get (i := v_47.fst) (by omega)
  refine ⟨h18, ?_⟩
  intro n52 y_53 h19 h20 ⟨a21, b21⟩ ⟨a22, b22⟩
  refine ⟨?_, ?_⟩
  ·
   intro h23
   exact by omega
  intro n58 q58
  rw [Int.tmod_eq_emod_of_nonneg (by omega)] at q58
  intro n60 q60
  first | (rw [wrU64] at q60; rotate_left 1; · omega) | rw [IntKind.wrap_u64] at q60
  refine ⟨?_, ?_⟩
  ·
   intro q60
   exact by omega
  intro n62 q62
  rw [Int.tmod_eq_emod_of_nonneg (by omega)] at q62
  intro n64 q64
  first | (rw [wrI64] at q64; rotate_left 1; · omega) | rw [IntKind.wrap_i64] at q64
  intro ⟨l64, u64⟩
  refine ⟨(n64.toNat, bif v_47.snd then n58 != n62 else false), rfl, rfl, rfl, by show n64 = (↑n64.toNat : Int); omega, ?_⟩
  refine ⟨?_, ?_⟩
  ·
   refine ⟨by show n64.toNat ≤ bl.length; omega, by first | omega | (dsimp only; omega), by show v_42.toNat ≤ (4611686018427387935 : Nat); omega, ?_⟩
   have ei : n64.toNat = v_47.fst + 1 := by omega
   rw [ei]
   have ge := gV_end (hb.1.get (i := v_47.fst) (by omega))
   rw [Int.toNat_natCast] at h20
   have hy : y_53 = gV (List.drop 56 (bl.getD v_47.fst [])) := h20
   rw [← hy] at ge
   have e1 : n58 = ((bl.getD v_47.fst []).getD 56 0).toNat := by omega
   refine fr_step h16.2.2.2 (by omega) ?_
   cases v_47.snd
   ·
    simp
   simp only [cond_true, bne_iff_ne, true_and]
   omega
  exact by show bl.length - n64.toNat < bl.length - v_47.fst; omega
 refine br_intro (fun c24 => ?_) (fun c24 => ?_)
 ·
  have ev : ((v_42.toNat : Nat) : Int) = v_42 := by omega
  have S := h15.2.2.2
  rw [← ev] at S
  exact hk _ (sx_end S ((fr_all h16.2.2.2 (by omega)).1 (by assumption))) (by omega)
 refine ⟨(↑v_42.toNat : Int) + (1 : Int), rfl, rfl, ?_⟩
 refine ⟨?_, ?_⟩
 ·
  refine ⟨by first | omega | (dsimp only; omega), ?_⟩
  refine ⟨?_, ?_⟩
  ·
   refine ⟨by show (0 : Int) ≤ (↑v_42.toNat : Int) + (1 : Int); omega, ?_⟩
   have CF : v_47.snd = false := by assumption
   have ev : ((v_42.toNat : Nat) : Int) = v_42 := by omega
   have S := h15.2.2.2
   rw [← ev] at S
   have F0 : ¬ freeB bl ((v_42.toNat : Int) + 1) := fun c => by have := (fr_all h16.2.2.2 (by omega)).2 c; rw [this] at CF; cases CF
   have S1 := sx_step hb.1.n.2 S F0
   have hi := S1.hi
   omega
  refine ⟨?_, ?_⟩
  ·
   refine ⟨by show (0 : Int) ≤ mxL g bl; omega, by show mxL g bl ≤ (4611686018427387903 : Int); omega, by show mxL g bl ≤ (↑v_42.toNat : Int) + (1 : Int); omega, ?_⟩
   have CF : v_47.snd = false := by assumption
   have ev : ((v_42.toNat : Nat) : Int) = v_42 := by omega
   have S := h15.2.2.2
   rw [← ev] at S
   have F0 : ¬ freeB bl ((v_42.toNat : Int) + 1) := fun c => by have := (fr_all h16.2.2.2 (by omega)).2 c; rw [this] at CF; cases CF
   have S1 := sx_step hb.1.n.2 S F0
   have hi := S1.hi
   omega
  have CF : v_47.snd = false := by assumption
  have ev : ((v_42.toNat : Nat) : Int) = v_42 := by omega
  have S := h15.2.2.2
  rw [← ev] at S
  have F0 : ¬ freeB bl ((v_42.toNat : Int) + 1) := fun c => by have := (fr_all h16.2.2.2 (by omega)).2 c; rw [this] at CF; cases CF
  have S1 := sx_step hb.1.n.2 S F0
  have hi := S1.hi
  exact S1
 exact by show (mxL g bl + (33 : Int) - ((↑v_42.toNat : Int) + (1 : Int))).toNat < (mxL g bl + (33 : Int) - v_42).toNat; omega
theorem newest_ok : Holds Try.prog 49 newestS := by
  refine fn_sound (env := mkEnv F5) (tab_ok F5_ok) Try.func49 Try.call49 fun args k h => ?_
  match args, h with
  | [.int .i64 g, .sl 6 bl], h => exact ⟨by kernel_rfl, newestLoops g bl, fun _ _ => none, .cast (by kernel_rfl) (newest_vc g bl h.1 k h.2)⟩
theorem F6_ok : TabOk Try.prog F6 := ⟨rslotT_ok, keptT_ok, askd_ok, trivial⟩
set_option maxHeartbeats 2000000 in
theorem rcounts_vc (d : List UInt8) (hd : D2 d) (k : AV → List (Option Blk) → List Blk → Prop) (hk : (∀ (c g m : Int) (ps : List Plan), Cd d c g m ps → c = 0 ∨ c = 1 → k (.tup [.int .i64 c, .agg [.int .i64 g, .int .u8 m, .sl 10 ps]]) [] []) ∧ (Cd d (-1 : Int) (0 : Int) (0 : Int) [] → k (.tup [.int .i64 (-1 : Int), .agg [.int .i64 0, .int .u8 0, .nilsl]]) [] [])) : ((D2 d) ∧ ((0 : Int) ≤ (0 : Int)) ∧ ((0 : Int) ≤ (1 : Int))) ∧ ∀ (bl_1 : List (List UInt8)), (bl_1 = slotL d (0 : Int)) → (B64 bl_1) ∧ ∀ (h_3 : Bool), ∀ (g_4 : Int), ∀ (m_5 : Int), ∀ (ps_6 : List Plan), (KF bl_1 h_3 g_4 m_5 ps_6) → (0 ≤ g_4 ∧ g_4 ≤ 4611686018427387903) → (0 ≤ m_5 ∧ m_5 ≤ 3) → (ps_6.length ≤ 8) → ((D2 d) ∧ ((0 : Int) ≤ (1 : Int)) ∧ ((1 : Int) ≤ (1 : Int))) ∧ ∀ (bl_11 : List (List UInt8)), (bl_11 = slotL d (1 : Int)) → (B64 bl_11) ∧ ∀ (h_13 : Bool), ∀ (g_14 : Int), ∀ (m_15 : Int), ∀ (ps_16 : List Plan), (KF bl_11 h_13 g_14 m_15 ps_16) → (0 ≤ g_14 ∧ g_14 ≤ 4611686018427387903) → (0 ≤ m_15 ∧ m_15 ≤ 3) → (ps_16.length ≤ 8) → ∀ (n21 : Int), (n21 = g_4) → ∀ (n23 : Int), (n23 = g_14) → br (bif h_3 then bif !h_13 then true else decide (n21 ≥ n23) else false) ((k (.tup [.int .i64 0, .agg [.int .i64 g_4, .int .u8 m_5, .sl 10 ps_6]]) [] [])) (br (h_13) ((k (.tup [.int .i64 1, .agg [.int .i64 g_14, .int .u8 m_15, .sl 10 ps_16]]) [] [])) ((k (.tup [.int .i64 (-1 : Int), .agg [.int .i64 0, .int .u8 0, .nilsl]]) [] []))) := by
 refine ⟨?_, ?_⟩
 ·
  refine ⟨by assumption, by first | omega | (dsimp only; omega), ?_⟩
  exact by omega
 intro bl_1 h1
 have h2 : B64 bl_1 := by
  rw [h1]; exact slot_b64 hd (by omega)
 refine ⟨h2, ?_⟩
 intro h_3 g_4 m_5 ps_6 h3 ⟨a4, b4⟩ ⟨a5, b5⟩ h6
 refine ⟨?_, ?_⟩
 ·
  refine ⟨by assumption, by first | omega | (dsimp only; omega), ?_⟩
  exact by omega
 intro bl_11 h7
 have h8 : B64 bl_11 := by
  rw [h7]; exact slot_b64 hd (by omega)
 refine ⟨h8, ?_⟩
 intro h_13 g_14 m_15 ps_16 h9 ⟨a10, b10⟩ ⟨a11, b11⟩ h12 n21 q21 n23 q23
 refine br_intro (fun c13 => ?_) (fun c13 => ?_)
 ·
  simp at c13
  rw [h1] at h3; rw [h7] at h9
  have K := h3.dk h9
  exact hk.1 _ _ _ _ (K.c0 ⟨c13.1, fun x => by rcases c13.2 with y | y; (rw [x] at y; cases y); omega⟩) (.inl rfl)
 simp at c13
 refine br_intro (fun c14 => ?_) (fun c14 => ?_)
 ·
  rw [h1] at h3; rw [h7] at h9
  have K := h3.dk h9
  exact hk.1 _ _ _ _ (K.c1 (fun x => by have y := c13 x.1; have := x.2 y.1; omega) (by assumption)) (.inr rfl)
 rw [h1] at h3; rw [h7] at h9
 have K := h3.dk h9
 exact hk.2 (K.c2 (fun x => by have y := c13 x.1; have := x.2 y.1; omega) (by assumption))
theorem rcounts_ok : Holds Try.prog 46 rcountsS := by
  refine fn_sound (env := mkEnv F6) (tab_ok F6_ok) Try.func46 Try.call46 fun args k h => ?_
  match args, h with
  | [.agg [.sl 0 d]], h => exact ⟨by kernel_rfl, fun _ _ => none, fun _ _ => none, .cast (by kernel_rfl) (rcounts_vc d h.1 k h.2)⟩
theorem rcountsT_ok : Holds Try.prog 46 rcountsT := rcounts_up rcounts_ok
set_option maxHeartbeats 2000000 in
theorem rSlot_vc (d : List UInt8) (i : Int) (k : AV → List (Option Blk) → List Blk → Prop) (hk : (∀ (e : Int), e = askD d → e ≠ (0 : Int) → k (.tup [.agg [.int .i64 0, .int .u8 0, .nilsl], .int .i64 e]) [] []) ∧ (D2 d → ¬(i = 0 ∨ i = 1) → k (.tup [.agg [.int .i64 0, .int .u8 0, .nilsl], .int .i64 2]) [] []) ∧ (D2 d → i = 0 ∨ i = 1 → KF (slotL d i) false (0 : Int) (0 : Int) [] → k (.tup [.agg [.int .i64 0, .int .u8 0, .nilsl], .int .i64 8]) [] []) ∧ (D2 d → i = 0 ∨ i = 1 → ∀ (g m : Int) (ps : List Plan), KF (slotL d i) true g m ps → k (.tup [.agg [.int .i64 g, .int .u8 m, .sl 10 ps], .int .i64 0]) [] [])) : ∀ (e_1 : Int), (e_1 = askD d) → (e_1 = 0 ∨ e_1 = 180 ∨ e_1 = 190) → br (e_1 != 0) ((k (.tup [.agg [.int .i64 0, .int .u8 0, .nilsl], .int .i64 e_1]) [] [])) (br (bif i != 0 then i != 1 else false) ((k (.tup [.agg [.int .i64 0, .int .u8 0, .nilsl], .int .i64 2]) [] [])) (((D2 d) ∧ (0 ≤ i) ∧ (i ≤ 1)) ∧ ∀ (bl_4 : List (List UInt8)), (bl_4 = slotL d i) → (B64 bl_4) ∧ ∀ (h_6 : Bool), ∀ (g_7 : Int), ∀ (m_8 : Int), ∀ (ps_9 : List Plan), (KF bl_4 h_6 g_7 m_8 ps_9) → (0 ≤ g_7 ∧ g_7 ≤ 4611686018427387903) → (0 ≤ m_8 ∧ m_8 ≤ 3) → (ps_9.length ≤ 8) → br (!h_6) ((k (.tup [.agg [.int .i64 0, .int .u8 0, .nilsl], .int .i64 8]) [] [])) ((k (.tup [.agg [.int .i64 g_7, .int .u8 m_8, .sl 10 ps_9], .int .i64 0]) [] [])))) := by
 intro e_1 h1 h2
 refine br_intro (fun c3 => ?_) (fun c3 => ?_)
 ·
  simp at c3
  exact hk.1 _ h1 c3
 simp at c3
 refine br_intro (fun c4 => ?_) (fun c4 => ?_)
 ·
  simp at c4
  exact hk.2.1 (askD_0 (h1.symm.trans c3)) (by omega)
 simp at c4
 refine ⟨?_, ?_⟩
 ·
  have h5 : D2 d := by
   exact askD_0 (h1.symm.trans c3)
  refine ⟨h5, by first | omega | (dsimp only; omega), ?_⟩
  exact by omega
 intro bl_4 h6
 have h7 : B64 bl_4 := by
  rw [h6]; exact slot_b64 (askD_0 (h1.symm.trans c3)) (by omega)
 refine ⟨h7, ?_⟩
 intro h_6 g_7 m_8 ps_9 h8 ⟨a9, b9⟩ ⟨a10, b10⟩ h11
 refine br_intro (fun c12 => ?_) (fun c12 => ?_)
 ·
  simp at c12
  have o := askD_0 (h1.symm.trans c3)
  rw [h6] at h8
  have c := c12
  subst c
  obtain ⟨rfl, rfl, rfl, -⟩ := h8.no rfl
  exact hk.2.2.1 o (by omega) h8
 simp at c12
 have o := askD_0 (h1.symm.trans c3)
 rw [h6] at h8
 have c := c12
 subst c
 exact hk.2.2.2 o (by omega) _ _ _ h8
theorem rSlot_ok : Holds Try.prog 22 rSlotS := by
  refine fn_sound (env := mkEnv F6) (tab_ok F6_ok) Try.func22 Try.call22 fun args k h => ?_
  match args, h with
  | [.agg [.sl 0 d], .int .i64 i], h => exact ⟨by kernel_rfl, fun _ _ => none, fun _ _ => none, .cast (by kernel_rfl) (rSlot_vc d i k h)⟩
theorem rSlotT_ok : Holds Try.prog 22 rSlotT := rSlot_up rSlot_ok
theorem F7_ok : TabOk Try.prog F7 := ⟨rcountsT_ok, askd_ok, trivial⟩
set_option maxHeartbeats 2000000 in
theorem rRead_vc (d : List UInt8) (k : AV → List (Option Blk) → List Blk → Prop) (hk : (∀ (e : Int), e = askD d → e ≠ (0 : Int) → k (.tup [.agg [.int .i64 0, .int .u8 0, .nilsl], .int .i64 e]) [] []) ∧ (D2 d → Cd d (-1 : Int) (0 : Int) (0 : Int) [] → k (.tup [.agg [.int .i64 0, .int .u8 0, .nilsl], .int .i64 190]) [] []) ∧ (D2 d → ∀ (c g m : Int) (ps : List Plan), Cd d c g m ps → c = 0 ∨ c = 1 → k (.tup [.agg [.int .i64 g, .int .u8 m, .sl 10 ps], .int .i64 0]) [] [])) : ∀ (e_1 : Int), (e_1 = askD d) → (e_1 = 0 ∨ e_1 = 180 ∨ e_1 = 190) → br (e_1 != 0) ((k (.tup [.agg [.int .i64 0, .int .u8 0, .nilsl], .int .i64 e_1]) [] [])) ((D2 d) ∧ ∀ (c_4 : Int), ∀ (g_5 : Int), ∀ (m_6 : Int), ∀ (ps_7 : List Plan), (Cd d c_4 g_5 m_6 ps_7) → (-1 ≤ c_4 ∧ c_4 ≤ 1) → (0 ≤ g_5 ∧ g_5 ≤ 4611686018427387903) → (0 ≤ m_6 ∧ m_6 ≤ 3) → (ps_7.length ≤ 8) → br (decide (c_4 < 0)) ((k (.tup [.agg [.int .i64 0, .int .u8 0, .nilsl], .int .i64 190]) [] [])) ((k (.tup [.agg [.int .i64 g_5, .int .u8 m_6, .sl 10 ps_7], .int .i64 0]) [] []))) := by
 intro e_1 h1 h2
 refine br_intro (fun c3 => ?_) (fun c3 => ?_)
 ·
  simp at c3
  exact hk.1 _ h1 c3
 simp at c3
 have h4 : D2 d := by
  exact askD_0 (h1.symm.trans c3)
 refine ⟨h4, ?_⟩
 intro c_4 g_5 m_6 ps_7 h5 ⟨a6, b6⟩ ⟨a7, b7⟩ ⟨a8, b8⟩ h9
 refine brd (fun c10 => ?_) (fun c10 => ?_)
 ·
  have e : c_4 = -1 := by omega
  subst e
  obtain ⟨_, _, _, _, _, _, _, _, _, _, _, _, z⟩ := h5.h
  obtain ⟨rfl, rfl, rfl⟩ := z rfl
  exact hk.2.1 h4 h5
 exact hk.2.2 h4 _ _ _ _ h5 (by omega)
theorem rRead_ok : Holds Try.prog 18 rReadS := by
  refine fn_sound (env := mkEnv F7) (tab_ok F7_ok) Try.func18 Try.call18 fun args k h => ?_
  match args, h with
  | [.agg [.sl 0 d]], h => exact ⟨by kernel_rfl, fun _ _ => none, fun _ _ => none, .cast (by kernel_rfl) (rRead_vc d k h)⟩
theorem rReadT_ok : Holds Try.prog 18 rReadT := rRead_up rRead_ok
end Go.Proofs.Ytcdflgfhkohldaa
