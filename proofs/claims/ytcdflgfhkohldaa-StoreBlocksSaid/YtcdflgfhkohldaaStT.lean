import Derived.Test.YtcdflgfhkohldaaStR
import Derived.Test.YtcdflgfhkohldaaStOr
namespace Go.Proofs.Ytcdflgfhkohldaa
open Go Go.Eng Go.Rw Go.Lk Go.Proofs
open Go.Bk hiding take_step drop_step set_mid
open Go.St hiding take_step
set_option linter.unusedVariables false
def F4 : Tab := (37, mayS) :: F3r
theorem F4_ok : TabOk Try.prog F4 := ⟨may_ok, F3r_ok⟩
def F5 : Tab := [(70, endsS), (72, readS), (73, partsT), (12, blocksT)]
def F6 : Tab := [(50, rslotT), (51, keptT), (45, askdS)]
def F7 : Tab := [(46, rcountsT), (45, askdS)]
set_option maxHeartbeats 2000000 in
theorem rblocks_vc (g : Int) (m : Int) (ps : List Plan) (n : Int) (hg : ((-9223372036854775808 : Int) ≤ g ∧ g ≤ (9223372036854775807 : Int)) ∧ (0 : Int) ≤ m ∧ m ≤ (255 : Int)) (k : AV → List (Option Blk) → List Blk → Prop) (hk : (∀ (e : Int), e = blkE g m ps n → e ≠ (0 : Int) → (0 : Int) ≤ e ∧ e ≤ (190 : Int) → k (AV.tup [AV.nilsl, AV.int IntKind.i64 e]) [] []) ∧ (blkE g m ps n = (0 : Int) → ∀ (bl : List (List UInt8)) (q : Nat), bl = blkO g m ps n → bl.length = q → k (AV.tup [AV.row (6 : Nat) (0 : Nat) (0 : Nat) q, AV.int IntKind.i64 (0 : Int)]) [] [Blk.row (6 : Nat) bl])) :
 br (bif decide (n < (1 : Int)) then true else decide (n > (32 : Int)))
 ((k (AV.tup [AV.nilsl, AV.int IntKind.i64 (2 : Int)]) [] []))
 ((
  ((0 : Int) ≤ m) ∧
  (m ≤ (255 : Int))) ∧
  ∀ (e_1 : Int),
  (e_1 = mayE g m ps) →
  (e_1 = (0 : Int) ∨ e_1 = (4 : Int) ∨ e_1 = (170 : Int) ∨ e_1 = (190 : Int)) →
  br (e_1 != (0 : Int))
  ((k (AV.tup [AV.nilsl, AV.int IntKind.i64 e_1]) [] []))
  (∀ (n4 : Int),
   (n4 = m) →
   ((0 : Int) ≤ n4 ∧ n4 ≤ (255 : Int)) →
   ∀ (n7 : Int),
   (n7 = IntKind.u64.wrap n4) →
   ((0 : Int) ≤ n7 ∧ n7 ≤ (18446744073709551615 : Int)) →
   (
   ((0 : Int) ≤ n7) ∧
   (n7 ≤ (18446744073709551615 : Int))) ∧
   ∀ (ys_10 : List UInt8),
   ∀ (q_11 : Nat),
   (ys_10 = smallL n7.toNat) →
   (ys_10.length = q_11) →
   (q_11 ≤ (10 : Nat)) →
   ∀ (e_15 : Int),
   ∀ (ys_16 : List UInt8),
   ∀ (n_17 : Nat),
   (e_15 = wholeE ps) →
   (e_15 = (0 : Int) ∨ e_15 = (4 : Int) ∨ e_15 = (170 : Int)) →
   (ys_16 = wholeO ps) →
   (ys_16.length = n_17) →
   (n_17 ≤ (1000 : Nat)) →
   ((q_11 + n_17) * (1 : Nat) ≤ (140737488355328 : Nat)) ∧
   ∀ (z23 : List UInt8),
   (z23 = List.take q_11 ys_10 ++ List.take n_17 (List.drop (0 : Nat) ys_16)) →
   ∀ (n25 : Int),
   (n25 = (↑(q_11 + n_17) : Int)) →
   ((-9223372036854775808 : Int) ≤ n25 ∧ n25 ≤ (9223372036854775807 : Int)) →
   ∀ (n28 : Int),
   (n28 = IntKind.u64.wrap n25) →
   ((0 : Int) ≤ n28 ∧ n28 ≤ (18446744073709551615 : Int)) →
   (
   ((0 : Int) ≤ n28) ∧
   (n28 ≤ (18446744073709551615 : Int))) ∧
   ∀ (ys_31 : List UInt8),
   ∀ (q_32 : Nat),
   (ys_31 = smallL n28.toNat) →
   (ys_31.length = q_32) →
   (q_32 ≤ (10 : Nat)) →
   ((q_32 + (q_11 + n_17)) * (1 : Nat) ≤ (140737488355328 : Nat)) ∧
   ∀ (z36 : List UInt8),
   (z36 = List.take q_32 ys_31 ++ List.take (q_11 + n_17) (List.drop (0 : Nat) z23)) →
   ∀ (n38 : Int),
   (n38 = (↑(q_32 + (q_11 + n_17)) : Int)) →
   ((-9223372036854775808 : Int) ≤ n38 ∧ n38 ≤ (9223372036854775807 : Int)) →
   ∀ (n41 : Int),
   (n41 = IntKind.i64.wrap ((48 : Int) * n)) →
   ((-9223372036854775808 : Int) ≤ n41 ∧ n41 ≤ (9223372036854775807 : Int)) →
   br (decide (n38 > n41))
   ((k (AV.tup [AV.nilsl, AV.int IntKind.i64 (190 : Int)]) [] []))
   ((
    ∃ (v : Nat × List UInt8),
    (n = n) ∧
    ((0 : Nat) = (0 : Nat)) ∧
    (q_32 + (q_11 + n_17) = v.fst) ∧
    (z36 = v.snd) ∧
    (g = g) ∧
    (m = m) ∧
    (ps = ps) ∧
    (v.fst ≤ (48 : Nat) * n.toNat) ∧
    (Laid g m n ps) ∧
    (
     ((1 : Int) ≤ n) ∧
     (n ≤ (32 : Int))) ∧
    (v.snd.length = v.fst) ∧
    (v.snd = blkB m ps ++ List.replicate (v.fst - (blkB m ps).length) (0 : UInt8)) ∧
    ((blkB m ps).length ≤ v.fst)) ∧
    ∀ (v_44 : Nat × List UInt8),
    (v_44.fst ≤ (48 : Nat) * n.toNat ∧ Laid g m n ps ∧ ((1 : Int) ≤ n ∧ n ≤ (32 : Int)) ∧ v_44.snd.length = v_44.fst ∧ v_44.snd = blkB m ps ++ List.replicate (v_44.fst - (blkB m ps).length) (0 : UInt8) ∧ (blkB m ps).length ≤ v_44.fst) →
    ∀ (n46 : Int),
    (n46 = (↑v_44.fst : Int)) →
    ((-9223372036854775808 : Int) ≤ n46 ∧ n46 ≤ (9223372036854775807 : Int)) →
    ∀ (n49 : Int),
    (n49 = IntKind.i64.wrap ((48 : Int) * n)) →
    ((-9223372036854775808 : Int) ≤ n49 ∧ n49 ≤ (9223372036854775807 : Int)) →
    br (decide (n46 < n49))
    (((v_44.fst + (1 : Nat)) * (1 : Nat) ≤ (140737488355328 : Nat)) ∧
     ∀ (z52 : List UInt8),
     (z52 = List.take v_44.fst v_44.snd ++ List.take (1 : Nat) (List.drop (0 : Nat) [UInt8.ofNat (Int.toNat (0 : Int))])) →
     ∃ (v' : Nat × List UInt8),
     (n = n) ∧
     ((0 : Nat) = (0 : Nat)) ∧
     (v_44.fst + (1 : Nat) = v'.fst) ∧
     (z52 = v'.snd) ∧
     (g = g) ∧
     (m = m) ∧
     (ps = ps) ∧
     (
     (v'.fst ≤ (48 : Nat) * n.toNat) ∧
     (Laid g m n ps) ∧
     (
      ((1 : Int) ≤ n) ∧
      (n ≤ (32 : Int))) ∧
     (v'.snd.length = v'.fst) ∧
     (v'.snd = blkB m ps ++ List.replicate (v'.fst - (blkB m ps).length) (0 : UInt8)) ∧
     ((blkB m ps).length ≤ v'.fst)) ∧
     ((48 : Nat) * n.toNat - v'.fst < (48 : Nat) * n.toNat - v_44.fst))
    (∀ (n54 : Int),
     (n54 = g) →
     ((-9223372036854775808 : Int) ≤ n54 ∧ n54 ≤ (9223372036854775807 : Int)) →
     ∀ (n57 : Int),
     (n57 = IntKind.u64.wrap n54) →
     ((0 : Int) ≤ n57 ∧ n57 ≤ (18446744073709551615 : Int)) →
     (
     ((0 : Int) ≤ n57) ∧
     (n57 ≤ (18446744073709551615 : Int))) ∧
     (
     ((-9223372036854775808 : Int) ≤ (8 : Int)) ∧
     ((8 : Int) ≤ (9223372036854775807 : Int))) ∧
     ∀ (ys_60 : List UInt8),
     ∀ (q_61 : Nat),
     ∀ (e_62 : Int),
     (ys_60 = putF n57 (8 : Int)) →
     (ys_60.length = q_61) →
     (e_62 = putE n57 (8 : Int)) →
     (e_62 = (0 : Int) ∨ e_62 = (2 : Int)) →
     (
     ∃ (v : Nat × List (List UInt8) × List UInt8 × List UInt8),
     (n = n) ∧
     (List.take v_44.fst (List.drop (0 : Nat) v_44.snd) = v.snd.snd.fst) ∧
     (List.take q_61 (List.drop (0 : Nat) ys_60) = v.snd.snd.snd) ∧
     ((0 : Nat) = (0 : Nat)) ∧
     ((0 : Nat) = v.fst) ∧
     ((0 : Int) = (↑v.fst : Int)) ∧
     ([] = v.snd.fst) ∧
     (v.fst ≤ n.toNat) ∧
     (Laid g m n ps) ∧
     (
      ((1 : Int) ≤ n) ∧
      (n ≤ (32 : Int))) ∧
     (v.snd.snd.fst.length = (48 : Nat) * n.toNat) ∧
     (v.snd.snd.snd.length = (8 : Nat)) ∧
     (v.snd.fst.length = v.fst) ∧
     (BIn g m ps n v.fst v.snd.fst v.snd.snd.fst v.snd.snd.snd)) ∧
     ∀ (v_67 : Nat × List (List UInt8) × List UInt8 × List UInt8),
     (v_67.fst ≤ n.toNat ∧ Laid g m n ps ∧ ((1 : Int) ≤ n ∧ n ≤ (32 : Int)) ∧ v_67.snd.snd.fst.length = (48 : Nat) * n.toNat ∧ v_67.snd.snd.snd.length = (8 : Nat) ∧ v_67.snd.fst.length = v_67.fst ∧ BIn g m ps n v_67.fst v_67.snd.fst v_67.snd.snd.fst v_67.snd.snd.snd) →
     br (decide ((↑v_67.fst : Int) < n))
     ((v_67.snd.snd.snd.length * (1 : Nat) ≤ (140737488355328 : Nat)) ∧
      ∀ (z69 : List UInt8),
      (z69 = v_67.snd.snd.snd) →
      ∀ (n71 : Int),
      (n71 = IntKind.i64.wrap ((↑v_67.fst : Int) * (48 : Int))) →
      ((-9223372036854775808 : Int) ≤ n71 ∧ n71 ≤ (9223372036854775807 : Int)) →
      ∀ (n74 : Int),
      (n74 = IntKind.i64.wrap ((↑v_67.fst : Int) * (48 : Int))) →
      ((-9223372036854775808 : Int) ≤ n74 ∧ n74 ≤ (9223372036854775807 : Int)) →
      ∀ (n77 : Int),
      (n77 = IntKind.i64.wrap (n74 + (48 : Int))) →
      ((-9223372036854775808 : Int) ≤ n77 ∧ n77 ≤ (9223372036854775807 : Int)) →
      ((0 : Int) ≤ n71) ∧
      (n71 ≤ n77) ∧
      (n77 ≤ (↑v_67.snd.snd.fst.length : Int)) ∧
      ((v_67.snd.snd.snd.length + (List.drop n71.toNat (List.take n77.toNat v_67.snd.snd.fst)).length) * (1 : Nat) ≤ (140737488355328 : Nat)) ∧
      ∀ (z80 : List UInt8),
      (z80 = List.take v_67.snd.snd.snd.length z69 ++ List.drop n71.toNat (List.take n77.toNat v_67.snd.snd.fst)) →
      ((v_67.snd.snd.snd.length + (List.drop n71.toNat (List.take n77.toNat v_67.snd.snd.fst)).length + v_67.snd.snd.snd.length) * (1 : Nat) ≤ (140737488355328 : Nat)) ∧
      ∀ (z82 : List UInt8),
      (z82 = List.take (v_67.snd.snd.snd.length + (List.drop n71.toNat (List.take n77.toNat v_67.snd.snd.fst)).length) z80 ++ v_67.snd.snd.snd) →
      ((v_67.fst + (1 : Nat)) * (24 : Nat) ≤ (140737488355328 : Nat)) ∧
      ∀ (z84 : List (List UInt8)),
      (z84 = List.take v_67.fst v_67.snd.fst ++ List.take (1 : Nat) (List.drop (0 : Nat) [List.take (v_67.snd.snd.snd.length + (List.drop n71.toNat (List.take n77.toNat v_67.snd.snd.fst)).length + v_67.snd.snd.snd.length) (List.drop (0 : Nat) z82)])) →
      ∀ (n86 : Int),
      (n86 = IntKind.i64.wrap ((↑v_67.fst : Int) + (1 : Int))) →
      ((-9223372036854775808 : Int) ≤ n86 ∧ n86 ≤ (9223372036854775807 : Int)) →
      ∃ (v' : Nat × List (List UInt8) × List UInt8 × List UInt8),
      (n = n) ∧
      (v_67.snd.snd.fst = v'.snd.snd.fst) ∧
      (v_67.snd.snd.snd = v'.snd.snd.snd) ∧
      ((0 : Nat) = (0 : Nat)) ∧
      (v_67.fst + (1 : Nat) = v'.fst) ∧
      (n86 = (↑v'.fst : Int)) ∧
      (z84 = v'.snd.fst) ∧
      (
      (v'.fst ≤ n.toNat) ∧
      (Laid g m n ps) ∧
      (
       ((1 : Int) ≤ n) ∧
       (n ≤ (32 : Int))) ∧
      (v'.snd.snd.fst.length = (48 : Nat) * n.toNat) ∧
      (v'.snd.snd.snd.length = (8 : Nat)) ∧
      (v'.snd.fst.length = v'.fst) ∧
      (BIn g m ps n v'.fst v'.snd.fst v'.snd.snd.fst v'.snd.snd.snd)) ∧
      (n.toNat - v'.fst < n.toNat - v_67.fst))
     ((k (AV.tup [AV.row (6 : Nat) (0 : Nat) (0 : Nat) v_67.fst, AV.int IntKind.i64 (0 : Int)]) [] [Blk.row (6 : Nat) v_67.snd.fst])))))) := by
 refine br_intro (fun c1 => ?_) (fun c1 => ?_)
 ·
  simp at c1
  exact hk.1 _ (blkE_2 (by omega)) (by decide) (by omega)
 ·
  simp at c1
  refine ⟨by first | omega | (dsimp only; omega), ?_⟩
  intro e_1
  intro h2
  intro h3
  refine br_intro (fun c4 => ?_) (fun c4 => ?_)
  ·
   simp at c4
   exact hk.1 _ (blkE_may (by omega) h2 c4) c4 (by omega)
  ·
   simp at c4
   intro n4
   intro q4
   intro ⟨l4, u4⟩
   intro n7
   intro q7
   first | (rw [wrU64] at q7; rotate_left 1; · omega) | rw [IntKind.wrap_u64] at q7
   intro ⟨l7, u7⟩
   refine ⟨by exact ⟨by assumption, by assumption⟩, ?_⟩
   intro ys_10
   intro q_11
   intro h5
   intro h6
   intro h7
   intro e_15
   intro ys_16
   intro n_17
   intro h8
   intro h9
   intro h10
   intro h11
   intro h12
   refine ⟨by first | omega | (dsimp only; omega), ?_⟩
   intro z23
   intro qz23
   intro n25
   intro q25
   intro ⟨l25, u25⟩
   intro n28
   intro q28
   first | (rw [wrU64] at q28; rotate_left 1; · omega) | rw [IntKind.wrap_u64] at q28
   intro ⟨l28, u28⟩
   refine ⟨by exact ⟨by assumption, by assumption⟩, ?_⟩
   intro ys_31
   intro q_32
   intro h13
   intro h14
   intro h15
   refine ⟨by first | omega | (dsimp only; omega), ?_⟩
   intro z36
   intro qz36
   intro n38
   intro q38
   intro ⟨l38, u38⟩
   intro n41
   intro q41
   first | (rw [wrI64] at q41; rotate_left 1; · omega) | rw [IntKind.wrap_i64] at q41
   intro ⟨l41, u41⟩
   refine brd (fun c16 => ?_) (fun c16 => ?_)
   ·
    obtain ⟨i1, i2⟩ := bl_in (m := m) (ps := ps) (by omega) (show n7 = m by omega) h5 h6 h10 h11 qz23
    obtain ⟨j1, j2⟩ := bl_b i1 i2 (show n28 = ((q_11 + n_17 : Nat) : Int) by omega) h13 h14 qz36
    rw [j1] at j2
    exact hk.1 _ (blkE_190 (by omega) (h2.symm.trans c4) (by rw [j2]; omega)) (by decide) (by omega)
   ·
    refine ⟨?_, ?_⟩
    ·
     refine ⟨(q_32 + (q_11 + n_17), z36), ?_⟩
     refine ⟨by first | with_reducible rfl | rfl, ?_⟩
     refine ⟨by first | with_reducible rfl | rfl, ?_⟩
     refine ⟨by first | with_reducible rfl | rfl, ?_⟩
     refine ⟨by first | with_reducible rfl | rfl, ?_⟩
     refine ⟨by first | with_reducible rfl | rfl, ?_⟩
     refine ⟨by first | with_reducible rfl | rfl, ?_⟩
     refine ⟨by first | with_reducible rfl | rfl, ?_⟩
     refine ⟨by show q_32 + (q_11 + n_17) ≤ (48 : Nat) * n.toNat; omega, ?_⟩
     have h17 : Laid g m n ps := by
      obtain ⟨i1, i2⟩ := bl_in (m := m) (ps := ps) (by omega) (show n7 = m by omega) h5 h6 h10 h11 qz23
      obtain ⟨j1, j2⟩ := bl_b i1 i2 (show n28 = ((q_11 + n_17 : Nat) : Int) by omega) h13 h14 qz36
      rw [j1] at j2
      exact ⟨blkE_ok (by omega) (h2.symm.trans c4) (by rw [j2]; omega)⟩
     refine ⟨h17, ?_⟩
     refine ⟨by first | omega | (dsimp only; omega), ?_⟩
     have h18 : z36.length = q_32 + (q_11 + n_17) := by
      obtain ⟨i1, i2⟩ := bl_in (m := m) (ps := ps) (by omega) (show n7 = m by omega) h5 h6 h10 h11 qz23
      obtain ⟨j1, j2⟩ := bl_b i1 i2 (show n28 = ((q_11 + n_17 : Nat) : Int) by omega) h13 h14 qz36
      exact j2
     refine ⟨h18, ?_⟩
     have h19 : z36 = blkB m ps ++ List.replicate (q_32 + (q_11 + n_17) - (blkB m ps).length) (0 : UInt8) := by
      obtain ⟨i1, i2⟩ := bl_in (m := m) (ps := ps) (by omega) (show n7 = m by omega) h5 h6 h10 h11 qz23
      obtain ⟨j1, j2⟩ := bl_b i1 i2 (show n28 = ((q_11 + n_17 : Nat) : Int) by omega) h13 h14 qz36
      exact pad_0 j1 j2
     refine ⟨h19, ?_⟩
     obtain ⟨i1, i2⟩ := bl_in (m := m) (ps := ps) (by omega) (show n7 = m by omega) h5 h6 h10 h11 qz23
     obtain ⟨j1, j2⟩ := bl_b i1 i2 (show n28 = ((q_11 + n_17 : Nat) : Int) by omega) h13 h14 qz36
     rw [j1] at j2
     rw [j2]; exact Nat.le_refl _
    intro v_44
    intro h20
    intro n46
    intro q46
    intro ⟨l46, u46⟩
    intro n49
    intro q49
    first | (rw [wrI64] at q49; rotate_left 1; · omega) | rw [IntKind.wrap_i64] at q49
    intro ⟨l49, u49⟩
    refine brd (fun c21 => ?_) (fun c21 => ?_)
    ·
     refine ⟨by first | omega | (dsimp only; omega), ?_⟩
     intro z52
     intro qz52
     refine ⟨(v_44.fst + (1 : Nat), z52), ?_⟩
     refine ⟨by first | with_reducible rfl | rfl, ?_⟩
     refine ⟨by first | with_reducible rfl | rfl, ?_⟩
     refine ⟨by first | with_reducible rfl | rfl, ?_⟩
     refine ⟨by first | with_reducible rfl | rfl, ?_⟩
     refine ⟨by first | with_reducible rfl | rfl, ?_⟩
     refine ⟨by first | with_reducible rfl | rfl, ?_⟩
     refine ⟨by first | with_reducible rfl | rfl, ?_⟩
     refine ⟨?_, ?_⟩
     ·
      refine ⟨by show v_44.fst + (1 : Nat) ≤ (48 : Nat) * n.toNat; omega, ?_⟩
      have h22 : Laid g m n ps := by
       exact h20.2.1
      refine ⟨h22, ?_⟩
      refine ⟨by first | omega | (dsimp only; omega), ?_⟩
      have h23 : z52.length = v_44.fst + (1 : Nat) := by
       exact (pad_step h20.2.2.2.2.1 h20.2.2.2.1 h20.2.2.2.2.2 qz52).2
      refine ⟨h23, ?_⟩
      have h24 : z52 = blkB m ps ++ List.replicate (v_44.fst + (1 : Nat) - (blkB m ps).length) (0 : UInt8) := by
       exact (pad_step h20.2.2.2.2.1 h20.2.2.2.1 h20.2.2.2.2.2 qz52).1
      refine ⟨h24, ?_⟩
      exact by show (blkB m ps).length ≤ v_44.fst + (1 : Nat); omega
     exact by show (48 : Nat) * n.toNat - (v_44.fst + (1 : Nat)) < (48 : Nat) * n.toNat - v_44.fst; omega
    ·
     intro n54
     intro q54
     intro ⟨l54, u54⟩
     intro n57
     intro q57
     first | (rw [wrU64] at q57; rotate_left 1; · omega) | rw [IntKind.wrap_u64] at q57
     intro ⟨l57, u57⟩
     refine ⟨by exact ⟨by assumption, by assumption⟩, ?_⟩
     refine ⟨by first | omega | (dsimp only; omega), ?_⟩
     intro ys_60
     intro q_61
     intro e_62
     intro h25
     intro h26
     intro h27
     intro h28
     refine ⟨?_, ?_⟩
     ·
      refine ⟨((0 : Nat), [], List.take v_44.fst (List.drop (0 : Nat) v_44.snd), List.take q_61 (List.drop (0 : Nat) ys_60)), ?_⟩
      refine ⟨by first | with_reducible rfl | rfl, ?_⟩
      refine ⟨by first | with_reducible rfl | rfl, ?_⟩
      refine ⟨by first | with_reducible rfl | rfl, ?_⟩
      refine ⟨by first | with_reducible rfl | rfl, ?_⟩
      refine ⟨by first | with_reducible rfl | rfl, ?_⟩
      refine ⟨by show (0 : Int) = (↑(0 : Nat) : Int); omega, ?_⟩
      refine ⟨by first | with_reducible rfl | rfl, ?_⟩
      refine ⟨by show (0 : Nat) ≤ n.toNat; omega, ?_⟩
      have h29 : Laid g m n ps := by
       exact h20.2.1
      refine ⟨h29, ?_⟩
      refine ⟨by first | omega | (dsimp only; omega), ?_⟩
      have h30 : (List.take v_44.fst (List.drop (0 : Nat) v_44.snd)).length = (48 : Nat) * n.toNat := by
       rw [List.drop_zero, List.length_take]
       omega
      refine ⟨h30, ?_⟩
      have h31 : (List.take q_61 (List.drop (0 : Nat) ys_60)).length = (8 : Nat) := by
       have eg : List.take q_61 (List.drop 0 ys_60) = putL g.toNat 8 := by
        have i := blkE_0.1 h20.2.1.e
        rw [List.drop_zero, ← h26, List.take_length, h25, show n57 = g by omega]
        unfold putF
        rw [if_pos (putF_8 i.2.1)]
        rfl
       rw [eg, putL_len]
      refine ⟨h31, ?_⟩
      refine ⟨by first | with_reducible rfl | rfl, ?_⟩
      have eg : List.take q_61 (List.drop 0 ys_60) = putL g.toNat 8 := by
       have i := blkE_0.1 h20.2.1.e
       rw [List.drop_zero, ← h26, List.take_length, h25, show n57 = g by omega]
       unfold putF
       rw [if_pos (putF_8 i.2.1)]
       rfl
      exact bin_0 (pad_all h20.2.2.2.2.1 h20.2.2.2.1 (by omega)) eg
     intro v_67
     intro h32
     refine brd (fun c33 => ?_) (fun c33 => ?_)
     ·
      refine ⟨by first | omega | (dsimp only; omega), ?_⟩
      intro z69
      intro qz69
      intro n71
      intro q71
      first | (rw [wrI64] at q71; rotate_left 1; · omega) | rw [IntKind.wrap_i64] at q71
      intro ⟨l71, u71⟩
      intro n74
      intro q74
      first | (rw [wrI64] at q74; rotate_left 1; · omega) | rw [IntKind.wrap_i64] at q74
      intro ⟨l74, u74⟩
      intro n77
      intro q77
      first | (rw [wrI64] at q77; rotate_left 1; · omega) | rw [IntKind.wrap_i64] at q77
      intro ⟨l77, u77⟩
      have h34 : (0 : Int) ≤ n71 := by
       omega
      refine ⟨h34, ?_⟩
      have h35 : n71 ≤ n77 := by
       omega
      refine ⟨h35, ?_⟩
      have h36 : n77 ≤ (↑v_67.snd.snd.fst.length : Int) := by
       omega
      refine ⟨h36, ?_⟩
      have h37 : (v_67.snd.snd.snd.length + (List.drop n71.toNat (List.take n77.toNat v_67.snd.snd.fst)).length) * (1 : Nat) ≤ (140737488355328 : Nat) := by
       simp only [List.length_drop, List.length_take]
       omega
      refine ⟨h37, ?_⟩
      intro z80
      intro qz80
      have h38 : (v_67.snd.snd.snd.length + (List.drop n71.toNat (List.take n77.toNat v_67.snd.snd.fst)).length + v_67.snd.snd.snd.length) * (1 : Nat) ≤ (140737488355328 : Nat) := by
       simp only [List.length_drop, List.length_take]
       omega
      refine ⟨h38, ?_⟩
      intro z82
      intro qz82
      refine ⟨by first | omega | (dsimp only; omega), ?_⟩
      intro z84
      intro qz84
      intro n86
      intro q86
      first | (rw [wrI64] at q86; rotate_left 1; · omega) | rw [IntKind.wrap_i64] at q86
      intro ⟨l86, u86⟩
      refine ⟨(v_67.fst + (1 : Nat), z84, v_67.snd.snd.fst, v_67.snd.snd.snd), ?_⟩
      refine ⟨by first | with_reducible rfl | rfl, ?_⟩
      refine ⟨by first | with_reducible rfl | rfl, ?_⟩
      refine ⟨by first | with_reducible rfl | rfl, ?_⟩
      refine ⟨by first | with_reducible rfl | rfl, ?_⟩
      refine ⟨by first | with_reducible rfl | rfl, ?_⟩
      refine ⟨by show n86 = (↑(v_67.fst + (1 : Nat)) : Int); omega, ?_⟩
      refine ⟨by first | with_reducible rfl | rfl, ?_⟩
      refine ⟨?_, ?_⟩
      ·
       refine ⟨by show v_67.fst + (1 : Nat) ≤ n.toNat; omega, ?_⟩
       have h39 : Laid g m n ps := by
        exact h32.2.1
       refine ⟨h39, ?_⟩
       refine ⟨by first | omega | (dsimp only; omega), ?_⟩
       refine ⟨by show v_67.snd.snd.fst.length = (48 : Nat) * n.toNat; omega, ?_⟩
       refine ⟨by show v_67.snd.snd.snd.length = (8 : Nat); omega, ?_⟩
       have h40 : z84.length = v_67.fst + (1 : Nat) := by
        obtain ⟨x1, x2⟩ := rb_x (i := v_67.fst) (g := g) h32.2.2.2.2.2.2.g (show n71 = _ by omega) (show n77 = _ by omega) qz69 qz80 qz82
        exact (bin_step h32.2.2.2.2.2.2 h32.2.2.2.2.2.1 x1 x2 qz84).2
       refine ⟨h40, ?_⟩
       obtain ⟨x1, x2⟩ := rb_x (i := v_67.fst) (g := g) h32.2.2.2.2.2.2.g (show n71 = _ by omega) (show n77 = _ by omega) qz69 qz80 qz82
       exact (bin_step h32.2.2.2.2.2.2 h32.2.2.2.2.2.1 x1 x2 qz84).1
      exact by show n.toNat - (v_67.fst + (1 : Nat)) < n.toNat - v_67.fst; omega
     ·
      have e : v_67.fst = n.toNat := by omega
      exact hk.2 h32.2.1.e _ _ (bin_end h32.2.2.2.2.2.2 h32.2.1 e) h32.2.2.2.2.2.1

theorem rblocks_ok : Holds Try.prog 12 blocksS := by
  refine fn_sound (env := mkEnv F4) (tab_ok F4_ok) Try.func12 Try.call12 fun args k h => ?_
  match args, h with
  | [.agg [.int .i64 g, .int .u8 m, .sl 10 ps], .int .i64 n], h => exact ⟨by kernel_rfl, rblocksLoops g m ps n, fun _ _ => none, .cast (by kernel_rfl) (rblocks_vc g m ps n h.1 k h.2)⟩
theorem rblocksT_ok : Holds Try.prog 12 blocksT := blocks_up rblocks_ok
theorem F5_ok : TabOk Try.prog F5 := ⟨ends_ok, rread_ok, rpartsT_ok, rblocksT_ok, trivial⟩
set_option maxHeartbeats 2000000 in
theorem kept_vc (bl : List (List UInt8)) (hb : B64 bl) (k : AV → List (Option Blk) → List Blk → Prop) (hk : (∀ (g m : Int) (ps : List Plan), KF bl true g m ps → k (AV.tup [AV.agg [AV.int IntKind.i64 g, AV.int IntKind.u8 m, AV.sl (10 : Nat) ps], AV.bool true]) [] []) ∧ (KF bl false (0 : Int) (0 : Int) [] → k (AV.tup [AV.agg [AV.int IntKind.i64 (0 : Int), AV.int IntKind.u8 (0 : Int), AV.nilsl], AV.bool false]) [] [])) :
 ((0 : Int) ≤ (0 : Int)) ∧
 ((0 : Int) < (↑bl.length : Int)) ∧
 ((bl.getD (Int.toNat (0 : Int)) (dflt (6 : Nat))).length = (64 : Nat)) ∧
 ∀ (n1 : Int),
 ∀ (y_2 : Int),
 (n1 = gV (List.take (8 : Nat) (bl.getD (Int.toNat (0 : Int)) (dflt (6 : Nat))))) →
 (y_2 = gV (List.drop (56 : Nat) (bl.getD (Int.toNat (0 : Int)) (dflt (6 : Nat))))) →
 ((0 : Int) ≤ n1 ∧ n1 ≤ (18446744073709551615 : Int)) →
 ((0 : Int) ≤ y_2 ∧ y_2 ≤ (18446744073709551615 : Int)) →
 br (decide (n1 ≥ (4611686018427387904 : Int)))
 ((k (AV.tup [AV.agg [AV.int IntKind.i64 (0 : Int), AV.int IntKind.u8 (0 : Int), AV.nilsl], AV.bool false]) [] []))
 ((
  ∃ (v : Nat × Nat × List UInt8 × Int),
  (bl = bl) ∧
  (n1 = v.snd.snd.snd) ∧
  ((0 : Nat) = (0 : Nat)) ∧
  ((0 : Nat) = v.snd.fst) ∧
  ((0 : Int) = (↑v.fst : Int)) ∧
  ([] = v.snd.snd.fst) ∧
  ((0 : Int) = (0 : Int)) ∧
  ((0 : Int) = (0 : Int)) ∧
  (v.fst ≤ bl.length) ∧
  (
   ((1 : Nat) ≤ bl.length) ∧
   (bl.length ≤ (32 : Nat))) ∧
  (v.snd.fst = (48 : Nat) * v.fst) ∧
  (
   ((0 : Int) ≤ v.snd.snd.snd) ∧
   (v.snd.snd.snd < (4611686018427387904 : Int))) ∧
  (v.snd.snd.fst.length = v.snd.fst) ∧
  (GvI bl v.snd.snd.snd) ∧
  (MidI bl v.fst v.snd.snd.fst)) ∧
  ∀ (v_7 : Nat × Nat × List UInt8 × Int),
  (v_7.fst ≤ bl.length ∧ ((1 : Nat) ≤ bl.length ∧ bl.length ≤ (32 : Nat)) ∧ v_7.snd.fst = (48 : Nat) * v_7.fst ∧ ((0 : Int) ≤ v_7.snd.snd.snd ∧ v_7.snd.snd.snd < (4611686018427387904 : Int)) ∧ v_7.snd.snd.fst.length = v_7.snd.fst ∧ GvI bl v_7.snd.snd.snd ∧ MidI bl v_7.fst v_7.snd.snd.fst) →
  ∀ (n9 : Int),
  (n9 = (↑bl.length : Int)) →
  ((-9223372036854775808 : Int) ≤ n9 ∧ n9 ≤ (9223372036854775807 : Int)) →
  br (decide ((↑v_7.fst : Int) < n9))
  (((0 : Int) ≤ (↑v_7.fst : Int)) ∧
   ((↑v_7.fst : Int) < (↑bl.length : Int)) ∧
   ((0 : Int) ≤ (8 : Int)) ∧
   ((8 : Int) ≤ (56 : Int)) ∧
   ((56 : Int) ≤ (↑(bl.getD (↑v_7.fst : Int).toNat (dflt (6 : Nat))).length : Int)) ∧
   ((v_7.snd.fst + (List.drop (Int.toNat (8 : Int)) (List.take (Int.toNat (56 : Int)) (bl.getD (↑v_7.fst : Int).toNat (dflt (6 : Nat))))).length) * (1 : Nat) ≤ (140737488355328 : Nat)) ∧
   ∀ (z12 : List UInt8),
   (z12 = List.take v_7.snd.fst v_7.snd.snd.fst ++ List.drop (Int.toNat (8 : Int)) (List.take (Int.toNat (56 : Int)) (bl.getD (↑v_7.fst : Int).toNat (dflt (6 : Nat))))) →
   ∀ (n14 : Int),
   (n14 = IntKind.i64.wrap ((↑v_7.fst : Int) + (1 : Int))) →
   ((-9223372036854775808 : Int) ≤ n14 ∧ n14 ≤ (9223372036854775807 : Int)) →
   ∃ (v' : Nat × Nat × List UInt8 × Int),
   (bl = bl) ∧
   (v_7.snd.snd.snd = v'.snd.snd.snd) ∧
   ((0 : Nat) = (0 : Nat)) ∧
   (v_7.snd.fst + (List.drop (Int.toNat (8 : Int)) (List.take (Int.toNat (56 : Int)) (bl.getD (↑v_7.fst : Int).toNat (dflt (6 : Nat))))).length = v'.snd.fst) ∧
   (n14 = (↑v'.fst : Int)) ∧
   (z12 = v'.snd.snd.fst) ∧
   ((0 : Int) = (0 : Int)) ∧
   ((0 : Int) = (0 : Int)) ∧
   (
   (v'.fst ≤ bl.length) ∧
   (
    ((1 : Nat) ≤ bl.length) ∧
    (bl.length ≤ (32 : Nat))) ∧
   (v'.snd.fst = (48 : Nat) * v'.fst) ∧
   (
    ((0 : Int) ≤ v'.snd.snd.snd) ∧
    (v'.snd.snd.snd < (4611686018427387904 : Int))) ∧
   (v'.snd.snd.fst.length = v'.snd.fst) ∧
   (GvI bl v'.snd.snd.snd) ∧
   (MidI bl v'.fst v'.snd.snd.fst)) ∧
   (bl.length - v'.fst < bl.length - v_7.fst))
  (((List.take v_7.snd.fst (List.drop (0 : Nat) v_7.snd.snd.fst)).length ≤ (1000000 : Nat)) ∧
   ∀ (a_17 : Int),
   ∀ (b_18 : Int),
   ∀ (c_19 : Int),
   (a_17 = (↑(readG (0 : Nat) (0 : Nat) (List.take v_7.snd.fst (List.drop (0 : Nat) v_7.snd.snd.fst))).fst : Int)) →
   (b_18 = (↑(readG (0 : Nat) (0 : Nat) (List.take v_7.snd.fst (List.drop (0 : Nat) v_7.snd.snd.fst))).snd.fst : Int)) →
   (c_19 = (↑(readG (0 : Nat) (0 : Nat) (List.take v_7.snd.fst (List.drop (0 : Nat) v_7.snd.snd.fst))).snd.snd : Int)) →
   ((0 : Int) ≤ a_17 ∧ a_17 ≤ (18446744073709551615 : Int)) →
   ((0 : Int) ≤ b_18 ∧ b_18 ≤ (10 : Int)) →
   (c_19 = (0 : Int) ∨ c_19 = (8 : Int)) →
   ∀ (n26 : Int),
   (n26 = (↑v_7.snd.fst : Int)) →
   ∀ (n28 : Int),
   (n28 = IntKind.i64.wrap (n26 - b_18)) →
   ∀ (n30 : Int),
   (n30 = IntKind.u64.wrap n28) →
   br (bif bif c_19 != (0 : Int) then true else decide (a_17 < (1 : Int)) then true else decide (a_17 > n30))
   ((k (AV.tup [AV.agg [AV.int IntKind.i64 (0 : Int), AV.int IntKind.u8 (0 : Int), AV.nilsl], AV.bool false]) [] []))
   (∀ (n32 : Int),
    (n32 = IntKind.i64.wrap a_17) →
    ((-9223372036854775808 : Int) ≤ n32 ∧ n32 ≤ (9223372036854775807 : Int)) →
    ∀ (n35 : Int),
    (n35 = IntKind.i64.wrap (b_18 + n32)) →
    ((-9223372036854775808 : Int) ≤ n35 ∧ n35 ≤ (9223372036854775807 : Int)) →
    ((0 : Int) ≤ b_18) ∧
    (b_18 ≤ n35) ∧
    (n35 ≤ (↑v_7.snd.fst : Int)) ∧
    ((List.take (n35.toNat - b_18.toNat) (List.drop ((0 : Nat) + b_18.toNat) v_7.snd.snd.fst)).length ≤ (1000000 : Nat)) ∧
    ∀ (a_38 : Int),
    ∀ (b_39 : Int),
    ∀ (c_40 : Int),
    (a_38 = (↑(readG (0 : Nat) (0 : Nat) (List.take (n35.toNat - b_18.toNat) (List.drop ((0 : Nat) + b_18.toNat) v_7.snd.snd.fst))).fst : Int)) →
    (b_39 = (↑(readG (0 : Nat) (0 : Nat) (List.take (n35.toNat - b_18.toNat) (List.drop ((0 : Nat) + b_18.toNat) v_7.snd.snd.fst))).snd.fst : Int)) →
    (c_40 = (↑(readG (0 : Nat) (0 : Nat) (List.take (n35.toNat - b_18.toNat) (List.drop ((0 : Nat) + b_18.toNat) v_7.snd.snd.fst))).snd.snd : Int)) →
    ((0 : Int) ≤ a_38 ∧ a_38 ≤ (18446744073709551615 : Int)) →
    ((0 : Int) ≤ b_39 ∧ b_39 ≤ (10 : Int)) →
    (c_40 = (0 : Int) ∨ c_40 = (8 : Int)) →
    br (bif c_40 != (0 : Int) then true else decide (a_38 > (3 : Int)))
    ((k (AV.tup [AV.agg [AV.int IntKind.i64 (0 : Int), AV.int IntKind.u8 (0 : Int), AV.nilsl], AV.bool false]) [] []))
    (((0 : Int) ≤ b_39) ∧
     (b_39 ≤ (↑(n35.toNat - b_18.toNat) : Int)) ∧
     ((List.take (n35.toNat - b_18.toNat - b_39.toNat) (List.drop ((0 : Nat) + b_18.toNat + b_39.toNat) v_7.snd.snd.fst)).length ≤ (1000000 : Nat)) ∧
     ∀ (e_47 : Int),
     ∀ (l_48 : List Plan),
     (St.PR (List.take (n35.toNat - b_18.toNat - b_39.toNat) (List.drop ((0 : Nat) + b_18.toNat + b_39.toNat) v_7.snd.snd.fst)) e_47 l_48) →
     (e_47 = (0 : Int) ∨ e_47 = (8 : Int)) →
     (l_48.length ≤ (8 : Nat)) →
     br (e_47 != (0 : Int))
     ((k (AV.tup [AV.agg [AV.int IntKind.i64 (0 : Int), AV.int IntKind.u8 (0 : Int), AV.nilsl], AV.bool false]) [] []))
     (∀ (n52 : Int),
      (n52 = IntKind.i64.wrap v_7.snd.snd.snd) →
      ((-9223372036854775808 : Int) ≤ n52 ∧ n52 ≤ (9223372036854775807 : Int)) →
      ∀ (n55 : Int),
      (n55 = IntKind.u8.wrap a_38) →
      ((0 : Int) ≤ n55 ∧ n55 ≤ (255 : Int)) →
      ∀ (n58 : Int),
      (n58 = (↑bl.length : Int)) →
      ((-9223372036854775808 : Int) ≤ n58 ∧ n58 ≤ (9223372036854775807 : Int)) →
      (
      (
       ((-9223372036854775808 : Int) ≤ n52) ∧
       (n52 ≤ (9223372036854775807 : Int))) ∧
      ((0 : Int) ≤ n55) ∧
      (n55 ≤ (255 : Int))) ∧
      ∀ (e_61 : Int),
      ∀ (bl_62 : List (List UInt8)),
      (e_61 = blkE n52 n55 l_48 n58) →
      (bl_62 = blkO n52 n55 l_48 n58) →
      ((0 : Int) ≤ e_61 ∧ e_61 ≤ (190 : Int)) →
      ((e_61 = (0 : Int)) →
      (bl_62.length = n58.toNat)) →
      br (e_61 != (0 : Int))
      ((k (AV.tup [AV.agg [AV.int IntKind.i64 (0 : Int), AV.int IntKind.u8 (0 : Int), AV.nilsl], AV.bool false]) [] []))
      ((
       ∃ (v : Nat × List (List UInt8) × Int × Int × List Plan),
       (bl = bl) ∧
       (bl_62 = v.snd.fst) ∧
       ((0 : Int) = (↑v.fst : Int)) ∧
       ((0 : Int) = (0 : Int)) ∧
       ((0 : Int) = (0 : Int)) ∧
       (n52 = v.snd.snd.fst) ∧
       (n55 = v.snd.snd.snd.fst) ∧
       (l_48 = v.snd.snd.snd.snd) ∧
       (v.fst ≤ bl.length) ∧
       (
        ((1 : Nat) ≤ bl.length) ∧
        (bl.length ≤ (32 : Nat))) ∧
       (v.snd.fst.length = bl.length) ∧
       (
        ((0 : Int) ≤ v.snd.snd.fst) ∧
        (v.snd.snd.fst < (4611686018427387904 : Int))) ∧
       (
        ((0 : Int) ≤ v.snd.snd.snd.fst) ∧
        (v.snd.snd.snd.fst ≤ (3 : Int))) ∧
       (AgI bl v.snd.fst v.snd.snd.fst v.snd.snd.snd.fst v.snd.snd.snd.snd v.fst)) ∧
       ∀ (v_67 : Nat × List (List UInt8) × Int × Int × List Plan),
       (v_67.fst ≤ bl.length ∧ ((1 : Nat) ≤ bl.length ∧ bl.length ≤ (32 : Nat)) ∧ v_67.snd.fst.length = bl.length ∧ ((0 : Int) ≤ v_67.snd.snd.fst ∧ v_67.snd.snd.fst < (4611686018427387904 : Int)) ∧ ((0 : Int) ≤ v_67.snd.snd.snd.fst ∧ v_67.snd.snd.snd.fst ≤ (3 : Int)) ∧ AgI bl v_67.snd.fst v_67.snd.snd.fst v_67.snd.snd.snd.fst v_67.snd.snd.snd.snd v_67.fst) →
       ∀ (n69 : Int),
       (n69 = (↑bl.length : Int)) →
       ((-9223372036854775808 : Int) ≤ n69 ∧ n69 ≤ (9223372036854775807 : Int)) →
       br (decide ((↑v_67.fst : Int) < n69))
       (((0 : Int) ≤ (↑v_67.fst : Int)) ∧
        ((↑v_67.fst : Int) < (↑v_67.snd.fst.length : Int)) ∧
        ((0 : Int) ≤ (↑v_67.fst : Int)) ∧
        ((↑v_67.fst : Int) < (↑bl.length : Int)) ∧
        br (!{ data := (v_67.snd.fst.getD (↑v_67.fst : Int).toNat (dflt (6 : Nat))).toArray : ByteArray }.data.toList == { data := (bl.getD (↑v_67.fst : Int).toNat (dflt (6 : Nat))).toArray : ByteArray }.data.toList)
        ((k (AV.tup [AV.agg [AV.int IntKind.i64 (0 : Int), AV.int IntKind.u8 (0 : Int), AV.nilsl], AV.bool false]) [] []))
        (∀ (n72 : Int),
         (n72 = IntKind.i64.wrap ((↑v_67.fst : Int) + (1 : Int))) →
         ((-9223372036854775808 : Int) ≤ n72 ∧ n72 ≤ (9223372036854775807 : Int)) →
         ∃ (v' : Nat × List (List UInt8) × Int × Int × List Plan),
         (bl = bl) ∧
         (v_67.snd.fst = v'.snd.fst) ∧
         (n72 = (↑v'.fst : Int)) ∧
         ((0 : Int) = (0 : Int)) ∧
         ((0 : Int) = (0 : Int)) ∧
         (v_67.snd.snd.fst = v'.snd.snd.fst) ∧
         (v_67.snd.snd.snd.fst = v'.snd.snd.snd.fst) ∧
         (v_67.snd.snd.snd.snd = v'.snd.snd.snd.snd) ∧
         (
         (v'.fst ≤ bl.length) ∧
         (
          ((1 : Nat) ≤ bl.length) ∧
          (bl.length ≤ (32 : Nat))) ∧
         (v'.snd.fst.length = bl.length) ∧
         (
          ((0 : Int) ≤ v'.snd.snd.fst) ∧
          (v'.snd.snd.fst < (4611686018427387904 : Int))) ∧
         (
          ((0 : Int) ≤ v'.snd.snd.snd.fst) ∧
          (v'.snd.snd.snd.fst ≤ (3 : Int))) ∧
         (AgI bl v'.snd.fst v'.snd.snd.fst v'.snd.snd.snd.fst v'.snd.snd.snd.snd v'.fst)) ∧
         (bl.length - v'.fst < bl.length - v_67.fst)))
       ((k (AV.tup [AV.agg [AV.int IntKind.i64 v_67.snd.snd.fst, AV.int IntKind.u8 v_67.snd.snd.snd.fst, AV.sl (10 : Nat) v_67.snd.snd.snd.snd], AV.bool true]) [] [])))))))) := by
 refine ⟨by first | omega | (dsimp only; omega), ?_⟩
 have h1 : (0 : Int) < (↑bl.length : Int) := by
  have := hb.n; omega
 refine ⟨h1, ?_⟩
 have h2 : (bl.getD (Int.toNat (0 : Int)) (dflt (6 : Nat))).length = (64 : Nat) := by
  exact hb.get (by have := hb.n; omega)
 refine ⟨h2, ?_⟩
 intro n1
 intro y_2
 intro h3
 intro h4
 intro ⟨a5, b5⟩
 intro ⟨a6, b6⟩
 refine brd (fun c7 => ?_) (fun c7 => ?_)
 ·
  exact hk.2 (kf_g (g := n1) ⟨h3⟩ (by omega))
 ·
  refine ⟨?_, ?_⟩
  ·
   refine ⟨(Int.toNat (0 : Int), (0 : Nat), [], n1), ?_⟩
   refine ⟨by first | with_reducible rfl | rfl, ?_⟩
   refine ⟨by first | with_reducible rfl | rfl, ?_⟩
   refine ⟨by first | with_reducible rfl | rfl, ?_⟩
   refine ⟨by first | with_reducible rfl | rfl, ?_⟩
   refine ⟨by show (0 : Int) = (↑(Int.toNat (0 : Int)) : Int); omega, ?_⟩
   refine ⟨by first | with_reducible rfl | rfl, ?_⟩
   refine ⟨by first | with_reducible rfl | rfl, ?_⟩
   refine ⟨by first | with_reducible rfl | rfl, ?_⟩
   refine ⟨by show Int.toNat (0 : Int) ≤ bl.length; omega, ?_⟩
   refine ⟨?_, ?_⟩
   ·
    refine ⟨by show (1 : Nat) ≤ bl.length; omega, ?_⟩
    exact hb.n.2
   refine ⟨by show (0 : Nat) = (48 : Nat) * Int.toNat (0 : Int); omega, ?_⟩
   refine ⟨by first | omega | (dsimp only; omega), ?_⟩
   refine ⟨by first | with_reducible rfl | rfl, ?_⟩
   have h8 : GvI bl n1 := by
    exact ⟨h3⟩
   refine ⟨h8, ?_⟩
   exact mid_0 bl
  intro v_7
  intro h9
  intro n9
  intro q9
  intro ⟨l9, u9⟩
  refine brd (fun c10 => ?_) (fun c10 => ?_)
  ·
   refine ⟨by first | omega | (dsimp only; omega), ?_⟩
   refine ⟨by first | omega | (dsimp only; omega), ?_⟩
   refine ⟨by first | omega | (dsimp only; omega), ?_⟩
   refine ⟨by first | omega | (dsimp only; omega), ?_⟩
   have h11 : (56 : Int) ≤ (↑(bl.getD (↑v_7.fst : Int).toNat (dflt (6 : Nat))).length : Int) := by
    have e1 : (bl.getD (v_7.fst : Int).toNat (dflt 6)).length = 64 := hb.get (by omega)
    omega
   refine ⟨h11, ?_⟩
   have h12 : (v_7.snd.fst + (List.drop (Int.toNat (8 : Int)) (List.take (Int.toNat (56 : Int)) (bl.getD (↑v_7.fst : Int).toNat (dflt (6 : Nat))))).length) * (1 : Nat) ≤ (140737488355328 : Nat) := by
    have e1 : (bl.getD (v_7.fst : Int).toNat (dflt 6)).length = 64 := hb.get (by omega)
    simp only [List.length_drop, List.length_take]
    omega
   refine ⟨h12, ?_⟩
   intro z12
   intro qz12
   intro n14
   intro q14
   first | (rw [wrI64] at q14; rotate_left 1; · omega) | rw [IntKind.wrap_i64] at q14
   intro ⟨l14, u14⟩
   refine ⟨(n14.toNat, v_7.snd.fst + (List.drop (Int.toNat (8 : Int)) (List.take (Int.toNat (56 : Int)) (bl.getD (↑v_7.fst : Int).toNat (dflt (6 : Nat))))).length, z12, v_7.snd.snd.snd), ?_⟩
   refine ⟨by first | with_reducible rfl | rfl, ?_⟩
   refine ⟨by first | with_reducible rfl | rfl, ?_⟩
   refine ⟨by first | with_reducible rfl | rfl, ?_⟩
   refine ⟨by first | with_reducible rfl | rfl, ?_⟩
   refine ⟨by show n14 = (↑n14.toNat : Int); omega, ?_⟩
   refine ⟨by first | with_reducible rfl | rfl, ?_⟩
   refine ⟨by first | with_reducible rfl | rfl, ?_⟩
   refine ⟨by first | with_reducible rfl | rfl, ?_⟩
   refine ⟨?_, ?_⟩
   ·
    refine ⟨by show n14.toNat ≤ bl.length; omega, ?_⟩
    refine ⟨by first | omega | (dsimp only; omega), ?_⟩
    have h13 : v_7.snd.fst + (List.drop (Int.toNat (8 : Int)) (List.take (Int.toNat (56 : Int)) (bl.getD (↑v_7.fst : Int).toNat (dflt (6 : Nat))))).length = (48 : Nat) * n14.toNat := by
     have e1 : (bl.getD (v_7.fst : Int).toNat (dflt 6)).length = 64 := hb.get (by omega)
     simp only [List.length_drop, List.length_take]
     omega
    refine ⟨h13, ?_⟩
    refine ⟨by first | omega | (dsimp only; omega), ?_⟩
    have h14 : z12.length = v_7.snd.fst + (List.drop (Int.toNat (8 : Int)) (List.take (Int.toNat (56 : Int)) (bl.getD (↑v_7.fst : Int).toNat (dflt (6 : Nat))))).length := by
     rw [qz12, List.length_append, List.length_take]
     omega
    refine ⟨h14, ?_⟩
    have h15 : GvI bl v_7.snd.snd.snd := by
     exact h9.2.2.2.2.2.1
    refine ⟨h15, ?_⟩
    have ei : n14.toNat = v_7.fst + 1 := by omega
    rw [ei]
    refine mid_step h9.2.2.2.2.2.2 (by omega) h9.2.2.2.2.1 ?_
    rw [qz12, List.drop_take, Int.toNat_natCast]
    rfl
   exact by show bl.length - n14.toNat < bl.length - v_7.fst; omega
  ·
   have h16 : (List.take v_7.snd.fst (List.drop (0 : Nat) v_7.snd.snd.fst)).length ≤ (1000000 : Nat) := by
    simp only [List.length_take, List.length_drop]
    omega
   refine ⟨h16, ?_⟩
   intro a_17
   intro b_18
   intro c_19
   intro h17
   intro h18
   intro h19
   intro ⟨a20, b20⟩
   intro ⟨a21, b21⟩
   intro h22
   intro n26
   intro q26
   intro n28
   intro q28
   first | (rw [wrI64] at q28; rotate_left 1; · omega) | rw [IntKind.wrap_i64] at q28
   intro n30
   intro q30
   first | (rw [wrU64] at q30; rotate_left 1; · omega) | rw [IntKind.wrap_u64] at q30
   refine br_intro (fun c23 => ?_) (fun c23 => ?_)
   ·
    simp at c23
    have e0 : List.take v_7.snd.fst (List.drop 0 v_7.snd.snd.fst) = v_7.snd.snd.fst := by rw [List.drop_zero, ← h9.2.2.2.2.1, List.take_length]
    rw [e0] at h17 h18 h19
    have hx : v_7.snd.snd.fst = midL bl := mid_all h9.2.2.2.2.2.2 (by omega)
    have hl : v_7.snd.snd.fst.length = 48 * bl.length := by omega
    exact hk.2 (kf_1 hx h17 h18 h19 (by omega))
   ·
    simp at c23
    intro n32
    intro q32
    first | (rw [wrI64] at q32; rotate_left 1; · omega) | rw [IntKind.wrap_i64] at q32
    intro ⟨l32, u32⟩
    intro n35
    intro q35
    first | (rw [wrI64] at q35; rotate_left 1; · omega) | rw [IntKind.wrap_i64] at q35
    intro ⟨l35, u35⟩
    refine ⟨by assumption, ?_⟩
    have h24 : b_18 ≤ n35 := by
     omega
    refine ⟨h24, ?_⟩
    refine ⟨by first | omega | (dsimp only; omega), ?_⟩
    have h25 : (List.take (n35.toNat - b_18.toNat) (List.drop ((0 : Nat) + b_18.toNat) v_7.snd.snd.fst)).length ≤ (1000000 : Nat) := by
     simp only [List.length_drop, List.length_take]
     omega
    refine ⟨h25, ?_⟩
    intro a_38
    intro b_39
    intro c_40
    intro h26
    intro h27
    intro h28
    intro ⟨a29, b29⟩
    intro ⟨a30, b30⟩
    intro h31
    refine br_intro (fun c32 => ?_) (fun c32 => ?_)
    ·
     simp at c32
     have e0 : List.take v_7.snd.fst (List.drop 0 v_7.snd.snd.fst) = v_7.snd.snd.fst := by rw [List.drop_zero, ← h9.2.2.2.2.1, List.take_length]
     rw [e0] at h17 h18 h19
     have hx : v_7.snd.snd.fst = midL bl := mid_all h9.2.2.2.2.2.2 (by omega)
     have hl : v_7.snd.snd.fst.length = 48 * bl.length := by omega
     have hy : List.take (n35.toNat - b_18.toNat) (List.drop (0 + b_18.toNat) v_7.snd.snd.fst) = inL v_7.snd.snd.fst := in_is h17 h18 (by rw [Nat.zero_add, show n35.toNat - b_18.toNat = a_17.toNat by omega])
     exact hk.2 (kf_2 hx hy h26 h28 (by omega))
    ·
     simp at c32
     refine ⟨by assumption, ?_⟩
     have h33 : b_39 ≤ (↑(n35.toNat - b_18.toNat) : Int) := by
      have r := rd_le h27 h28 (by omega)
      simp only [List.length_take, List.length_drop] at r
      omega
     refine ⟨h33, ?_⟩
     have h34 : (List.take (n35.toNat - b_18.toNat - b_39.toNat) (List.drop ((0 : Nat) + b_18.toNat + b_39.toNat) v_7.snd.snd.fst)).length ≤ (1000000 : Nat) := by
      simp only [List.length_drop, List.length_take]
      omega
     refine ⟨h34, ?_⟩
     intro e_47
     intro l_48
     intro h35
     intro h36
     intro h37
     refine br_intro (fun c38 => ?_) (fun c38 => ?_)
     ·
      simp at c38
      have e0 : List.take v_7.snd.fst (List.drop 0 v_7.snd.snd.fst) = v_7.snd.snd.fst := by rw [List.drop_zero, ← h9.2.2.2.2.1, List.take_length]
      rw [e0] at h17 h18 h19
      have hx : v_7.snd.snd.fst = midL bl := mid_all h9.2.2.2.2.2.2 (by omega)
      have hl : v_7.snd.snd.fst.length = 48 * bl.length := by omega
      have hy : List.take (n35.toNat - b_18.toNat) (List.drop (0 + b_18.toNat) v_7.snd.snd.fst) = inL v_7.snd.snd.fst := in_is h17 h18 (by rw [Nat.zero_add, show n35.toNat - b_18.toNat = a_17.toNat by omega])
      have hu : List.take (n35.toNat - b_18.toNat - b_39.toNat) (List.drop (0 + b_18.toNat + b_39.toNat) v_7.snd.snd.fst) = (List.take (n35.toNat - b_18.toNat) (List.drop (0 + b_18.toNat) v_7.snd.snd.fst)).drop b_39.toNat := by rw [List.drop_take, List.drop_drop]
      exact hk.2 (kf_3 hx hy h27 hu h35 c38)
     ·
      simp at c38
      intro n52
      intro q52
      first | (rw [wrI64] at q52; rotate_left 1; · omega) | rw [IntKind.wrap_i64] at q52
      intro ⟨l52, u52⟩
      intro n55
      intro q55
      first | (rw [wrU8] at q55; rotate_left 1; · omega) | rw [IntKind.wrap_u8] at q55
      intro ⟨l55, u55⟩
      intro n58
      intro q58
      intro ⟨l58, u58⟩
      refine ⟨?_, ?_⟩
      ·
       refine ⟨by exact ⟨by assumption, by assumption⟩, ?_⟩
       refine ⟨by assumption, ?_⟩
       exact by assumption
      intro e_61
      intro bl_62
      intro h39
      intro h40
      intro ⟨a41, b41⟩
      intro h42
      refine br_intro (fun c43 => ?_) (fun c43 => ?_)
      ·
       simp at c43
       have e0 : List.take v_7.snd.fst (List.drop 0 v_7.snd.snd.fst) = v_7.snd.snd.fst := by rw [List.drop_zero, ← h9.2.2.2.2.1, List.take_length]
       rw [e0] at h17 h18 h19
       have hx : v_7.snd.snd.fst = midL bl := mid_all h9.2.2.2.2.2.2 (by omega)
       have hl : v_7.snd.snd.fst.length = 48 * bl.length := by omega
       have hy : List.take (n35.toNat - b_18.toNat) (List.drop (0 + b_18.toNat) v_7.snd.snd.fst) = inL v_7.snd.snd.fst := in_is h17 h18 (by rw [Nat.zero_add, show n35.toNat - b_18.toNat = a_17.toNat by omega])
       have hu : List.take (n35.toNat - b_18.toNat - b_39.toNat) (List.drop (0 + b_18.toNat + b_39.toNat) v_7.snd.snd.fst) = (List.take (n35.toNat - b_18.toNat) (List.drop (0 + b_18.toNat) v_7.snd.snd.fst)).drop b_39.toNat := by rw [List.drop_take, List.drop_drop]
       rw [c38] at h35
       have g1 : GvI bl n52 := by rw [show n52 = v_7.snd.snd.snd by omega]; exact h9.2.2.2.2.2.1
       have D := dc_of g1 hx hy h26 h27 hu h35
       rw [show a_38 = n55 by omega] at D
       rw [q58] at h39 h40
       exact hk.2 (kf_4 D h39 c43)
      ·
       simp at c43
       refine ⟨?_, ?_⟩
       ·
        refine ⟨(Int.toNat (0 : Int), bl_62, n52, n55, l_48), ?_⟩
        refine ⟨by first | with_reducible rfl | rfl, ?_⟩
        refine ⟨by first | with_reducible rfl | rfl, ?_⟩
        refine ⟨by show (0 : Int) = (↑(Int.toNat (0 : Int)) : Int); omega, ?_⟩
        refine ⟨by first | with_reducible rfl | rfl, ?_⟩
        refine ⟨by first | with_reducible rfl | rfl, ?_⟩
        refine ⟨by first | with_reducible rfl | rfl, ?_⟩
        refine ⟨by first | with_reducible rfl | rfl, ?_⟩
        refine ⟨by first | with_reducible rfl | rfl, ?_⟩
        refine ⟨by show Int.toNat (0 : Int) ≤ bl.length; omega, ?_⟩
        refine ⟨by first | omega | (dsimp only; omega), ?_⟩
        refine ⟨by show bl_62.length = bl.length; omega, ?_⟩
        refine ⟨by first | omega | (dsimp only; omega), ?_⟩
        refine ⟨by first | omega | (dsimp only; omega), ?_⟩
        have e0 : List.take v_7.snd.fst (List.drop 0 v_7.snd.snd.fst) = v_7.snd.snd.fst := by rw [List.drop_zero, ← h9.2.2.2.2.1, List.take_length]
        rw [e0] at h17 h18 h19
        have hx : v_7.snd.snd.fst = midL bl := mid_all h9.2.2.2.2.2.2 (by omega)
        have hl : v_7.snd.snd.fst.length = 48 * bl.length := by omega
        have hy : List.take (n35.toNat - b_18.toNat) (List.drop (0 + b_18.toNat) v_7.snd.snd.fst) = inL v_7.snd.snd.fst := in_is h17 h18 (by rw [Nat.zero_add, show n35.toNat - b_18.toNat = a_17.toNat by omega])
        have hu : List.take (n35.toNat - b_18.toNat - b_39.toNat) (List.drop (0 + b_18.toNat + b_39.toNat) v_7.snd.snd.fst) = (List.take (n35.toNat - b_18.toNat) (List.drop (0 + b_18.toNat) v_7.snd.snd.fst)).drop b_39.toNat := by rw [List.drop_take, List.drop_drop]
        rw [c38] at h35
        have g1 : GvI bl n52 := by rw [show n52 = v_7.snd.snd.snd by omega]; exact h9.2.2.2.2.2.1
        have D := dc_of g1 hx hy h26 h27 hu h35
        rw [show a_38 = n55 by omega] at D
        rw [q58] at h39 h40
        exact ag_0 D h39 c43 h40
       intro v_67
       intro h44
       intro n69
       intro q69
       intro ⟨l69, u69⟩
       refine brd (fun c45 => ?_) (fun c45 => ?_)
       ·
        refine ⟨by first | omega | (dsimp only; omega), ?_⟩
        refine ⟨by first | omega | (dsimp only; omega), ?_⟩
        refine ⟨by first | omega | (dsimp only; omega), ?_⟩
        refine ⟨by first | omega | (dsimp only; omega), ?_⟩
        refine br_intro (fun c46 => ?_) (fun c46 => ?_)
        ·
         simp at c46
         exact hk.2 (ag_bad h44.2.2.2.2.2 (i := v_67.fst) (by rw [List.getD_eq_getElem?_getD, List.getD_eq_getElem?_getD]; exact c46))
        ·
         simp at c46
         intro n72
         intro q72
         first | (rw [wrI64] at q72; rotate_left 1; · omega) | rw [IntKind.wrap_i64] at q72
         intro ⟨l72, u72⟩
         refine ⟨(n72.toNat, v_67.snd.fst, v_67.snd.snd.fst, v_67.snd.snd.snd.fst, v_67.snd.snd.snd.snd), ?_⟩
         refine ⟨by first | with_reducible rfl | rfl, ?_⟩
         refine ⟨by first | with_reducible rfl | rfl, ?_⟩
         refine ⟨by show n72 = (↑n72.toNat : Int); omega, ?_⟩
         refine ⟨by first | with_reducible rfl | rfl, ?_⟩
         refine ⟨by first | with_reducible rfl | rfl, ?_⟩
         refine ⟨by first | with_reducible rfl | rfl, ?_⟩
         refine ⟨by first | with_reducible rfl | rfl, ?_⟩
         refine ⟨by first | with_reducible rfl | rfl, ?_⟩
         refine ⟨?_, ?_⟩
         ·
          refine ⟨by show n72.toNat ≤ bl.length; omega, ?_⟩
          refine ⟨by first | omega | (dsimp only; omega), ?_⟩
          refine ⟨by show v_67.snd.fst.length = bl.length; omega, ?_⟩
          refine ⟨by first | omega | (dsimp only; omega), ?_⟩
          refine ⟨by first | omega | (dsimp only; omega), ?_⟩
          rw [show n72.toNat = v_67.fst + 1 by omega]
          exact ag_step h44.2.2.2.2.2 (by omega) h44.2.2.1 (by rw [List.getD_eq_getElem?_getD, List.getD_eq_getElem?_getD]; exact c46)
         exact by show bl.length - n72.toNat < bl.length - v_67.fst; omega
       ·
        exact hk.1 _ _ _ (ag_end h44.2.2.2.2.2 (by omega) (by omega) h44.2.2.1)

theorem kept_ok : Holds Try.prog 51 keptS := by
  refine fn_sound (env := mkEnv F5) (tab_ok F5_ok) Try.func51 Try.call51 fun args k h => ?_
  match args, h with
  | [.sl 6 bl], h => exact ⟨by kernel_rfl, keptLoops bl, fun _ _ => none, .cast (by kernel_rfl) (kept_vc bl h.1 k h.2)⟩
theorem keptT_ok : Holds Try.prog 51 keptT := kept_up kept_ok
set_option maxHeartbeats 2000000 in
theorem newest_vc (g : Int) (bl : List (List UInt8)) (hb : B64 bl ∧ (0 : Int) ≤ g ∧ g ≤ (4611686018427387903 : Int)) (k : AV → List (Option Blk) → List Blk → Prop) (hk : ∀ (r : Int), Nx g bl r → (1 : Int) ≤ r ∧ r ≤ (4611686018427387936 : Int) → k (AV.int IntKind.i64 r) [] []) :
 (
 ∃ (v : Nat × Int),
 (g = v.snd) ∧
 (bl = bl) ∧
 ((0 : Int) = (↑v.fst : Int)) ∧
 (v.fst ≤ bl.length) ∧
 (
  ((1 : Nat) ≤ bl.length) ∧
  (bl.length ≤ (32 : Nat))) ∧
 (
  ((0 : Int) ≤ v.snd) ∧
  (v.snd ≤ (4611686018427387903 : Int))) ∧
 (MxI g bl v.fst v.snd)) ∧
 ∀ (v_1 : Nat × Int),
 (v_1.fst ≤ bl.length ∧ ((1 : Nat) ≤ bl.length ∧ bl.length ≤ (32 : Nat)) ∧ ((0 : Int) ≤ v_1.snd ∧ v_1.snd ≤ (4611686018427387903 : Int)) ∧ MxI g bl v_1.fst v_1.snd) →
 ∀ (n3 : Int),
 (n3 = (↑bl.length : Int)) →
 ((-9223372036854775808 : Int) ≤ n3 ∧ n3 ≤ (9223372036854775807 : Int)) →
 br (decide ((↑v_1.fst : Int) < n3))
 (((0 : Int) ≤ (↑v_1.fst : Int)) ∧
  ((↑v_1.fst : Int) < (↑bl.length : Int)) ∧
  ((bl.getD (↑v_1.fst : Int).toNat (dflt (6 : Nat))).length = (64 : Nat)) ∧
  ∀ (n6 : Int),
  ∀ (y_7 : Int),
  (n6 = gV (List.take (8 : Nat) (bl.getD (↑v_1.fst : Int).toNat (dflt (6 : Nat))))) →
  (y_7 = gV (List.drop (56 : Nat) (bl.getD (↑v_1.fst : Int).toNat (dflt (6 : Nat))))) →
  ((0 : Int) ≤ n6 ∧ n6 ≤ (18446744073709551615 : Int)) →
  ((0 : Int) ≤ y_7 ∧ y_7 ≤ (18446744073709551615 : Int)) →
  br (decide (n6 < (4611686018427387904 : Int)))
  (∀ (n12 : Int),
   (n12 = IntKind.i64.wrap n6) →
   ((-9223372036854775808 : Int) ≤ n12 ∧ n12 ≤ (9223372036854775807 : Int)) →
   ∀ (n15 : Int),
   (n15 = max v_1.snd n12) →
   ((-9223372036854775808 : Int) ≤ n15 ∧ n15 ≤ (9223372036854775807 : Int)) →
   br (decide (y_7 < (4611686018427387904 : Int)))
   (∀ (n18 : Int),
    (n18 = IntKind.i64.wrap y_7) →
    ((-9223372036854775808 : Int) ≤ n18 ∧ n18 ≤ (9223372036854775807 : Int)) →
    ∀ (n21 : Int),
    (n21 = max n15 n18) →
    ((-9223372036854775808 : Int) ≤ n21 ∧ n21 ≤ (9223372036854775807 : Int)) →
    ∀ (n24 : Int),
    (n24 = IntKind.i64.wrap ((↑v_1.fst : Int) + (1 : Int))) →
    ((-9223372036854775808 : Int) ≤ n24 ∧ n24 ≤ (9223372036854775807 : Int)) →
    ∃ (v' : Nat × Int),
    (n21 = v'.snd) ∧
    (bl = bl) ∧
    (n24 = (↑v'.fst : Int)) ∧
    (
    (v'.fst ≤ bl.length) ∧
    (
     ((1 : Nat) ≤ bl.length) ∧
     (bl.length ≤ (32 : Nat))) ∧
    (
     ((0 : Int) ≤ v'.snd) ∧
     (v'.snd ≤ (4611686018427387903 : Int))) ∧
    (MxI g bl v'.fst v'.snd)) ∧
    (bl.length - v'.fst < bl.length - v_1.fst))
   (∀ (n27 : Int),
    (n27 = IntKind.i64.wrap ((↑v_1.fst : Int) + (1 : Int))) →
    ((-9223372036854775808 : Int) ≤ n27 ∧ n27 ≤ (9223372036854775807 : Int)) →
    ∃ (v' : Nat × Int),
    (n15 = v'.snd) ∧
    (bl = bl) ∧
    (n27 = (↑v'.fst : Int)) ∧
    (
    (v'.fst ≤ bl.length) ∧
    (
     ((1 : Nat) ≤ bl.length) ∧
     (bl.length ≤ (32 : Nat))) ∧
    (
     ((0 : Int) ≤ v'.snd) ∧
     (v'.snd ≤ (4611686018427387903 : Int))) ∧
    (MxI g bl v'.fst v'.snd)) ∧
    (bl.length - v'.fst < bl.length - v_1.fst)))
  (br (decide (y_7 < (4611686018427387904 : Int)))
   (∀ (n30 : Int),
    (n30 = IntKind.i64.wrap y_7) →
    ((-9223372036854775808 : Int) ≤ n30 ∧ n30 ≤ (9223372036854775807 : Int)) →
    ∀ (n33 : Int),
    (n33 = max v_1.snd n30) →
    ((-9223372036854775808 : Int) ≤ n33 ∧ n33 ≤ (9223372036854775807 : Int)) →
    ∀ (n36 : Int),
    (n36 = IntKind.i64.wrap ((↑v_1.fst : Int) + (1 : Int))) →
    ((-9223372036854775808 : Int) ≤ n36 ∧ n36 ≤ (9223372036854775807 : Int)) →
    ∃ (v' : Nat × Int),
    (n33 = v'.snd) ∧
    (bl = bl) ∧
    (n36 = (↑v'.fst : Int)) ∧
    (
    (v'.fst ≤ bl.length) ∧
    (
     ((1 : Nat) ≤ bl.length) ∧
     (bl.length ≤ (32 : Nat))) ∧
    (
     ((0 : Int) ≤ v'.snd) ∧
     (v'.snd ≤ (4611686018427387903 : Int))) ∧
    (MxI g bl v'.fst v'.snd)) ∧
    (bl.length - v'.fst < bl.length - v_1.fst))
   (∀ (n39 : Int),
    (n39 = IntKind.i64.wrap ((↑v_1.fst : Int) + (1 : Int))) →
    ((-9223372036854775808 : Int) ≤ n39 ∧ n39 ≤ (9223372036854775807 : Int)) →
    ∃ (v' : Nat × Int),
    (v_1.snd = v'.snd) ∧
    (bl = bl) ∧
    (n39 = (↑v'.fst : Int)) ∧
    (
    (v'.fst ≤ bl.length) ∧
    (
     ((1 : Nat) ≤ bl.length) ∧
     (bl.length ≤ (32 : Nat))) ∧
    (
     ((0 : Int) ≤ v'.snd) ∧
     (v'.snd ≤ (4611686018427387903 : Int))) ∧
    (MxI g bl v'.fst v'.snd)) ∧
    (bl.length - v'.fst < bl.length - v_1.fst))))
 ((
  ∃ (v : Int),
  (v_1.snd = v) ∧
  (bl = bl) ∧
  (
   ((1 : Nat) ≤ bl.length) ∧
   (bl.length ≤ (32 : Nat))) ∧
  (
   ((0 : Int) ≤ v) ∧
   (v ≤ (4611686018427387935 : Int))) ∧
  (
   ((0 : Int) ≤ mxL g bl) ∧
   (mxL g bl ≤ (4611686018427387903 : Int)) ∧
   (mxL g bl ≤ v) ∧
   (v ≤ mxL g bl + (32 : Int))) ∧
  (Sx g bl (v + (1 : Int)))) ∧
  ∀ (v_42 : Int),
  (((1 : Nat) ≤ bl.length ∧ bl.length ≤ (32 : Nat)) ∧ ((0 : Int) ≤ v_42 ∧ v_42 ≤ (4611686018427387935 : Int)) ∧ ((0 : Int) ≤ mxL g bl ∧ mxL g bl ≤ (4611686018427387903 : Int) ∧ mxL g bl ≤ v_42 ∧ v_42 ≤ mxL g bl + (32 : Int)) ∧ Sx g bl (v_42 + (1 : Int))) →
  ∀ (n44 : Int),
  (n44 = IntKind.i64.wrap (v_42 + (1 : Int))) →
  ((-9223372036854775808 : Int) ≤ n44 ∧ n44 ≤ (9223372036854775807 : Int)) →
  (
  ∃ (v : Nat × Bool),
  (n44 = (↑v_42.toNat : Int) + (1 : Int)) ∧
  (bl = bl) ∧
  (true = v.snd) ∧
  ((0 : Int) = (↑v.fst : Int)) ∧
  (v.fst ≤ bl.length) ∧
  (
   ((1 : Nat) ≤ bl.length) ∧
   (bl.length ≤ (32 : Nat))) ∧
  (v_42.toNat ≤ (4611686018427387935 : Nat)) ∧
  (FrI bl v.fst ((↑v_42.toNat : Int) + (1 : Int)) v.snd)) ∧
  ∀ (v_47 : Nat × Bool),
  (v_47.fst ≤ bl.length ∧ ((1 : Nat) ≤ bl.length ∧ bl.length ≤ (32 : Nat)) ∧ v_42.toNat ≤ (4611686018427387935 : Nat) ∧ FrI bl v_47.fst ((↑v_42.toNat : Int) + (1 : Int)) v_47.snd) →
  ∀ (n49 : Int),
  (n49 = (↑bl.length : Int)) →
  ((-9223372036854775808 : Int) ≤ n49 ∧ n49 ≤ (9223372036854775807 : Int)) →
  br (decide ((↑v_47.fst : Int) < n49))
  (((0 : Int) ≤ (↑v_47.fst : Int)) ∧
   ((↑v_47.fst : Int) < (↑bl.length : Int)) ∧
   ((bl.getD (↑v_47.fst : Int).toNat (dflt (6 : Nat))).length = (64 : Nat)) ∧
   ∀ (n52 : Int),
   ∀ (y_53 : Int),
   (n52 = gV (List.take (8 : Nat) (bl.getD (↑v_47.fst : Int).toNat (dflt (6 : Nat))))) →
   (y_53 = gV (List.drop (56 : Nat) (bl.getD (↑v_47.fst : Int).toNat (dflt (6 : Nat))))) →
   ((0 : Int) ≤ n52 ∧ n52 ≤ (18446744073709551615 : Int)) →
   ((0 : Int) ≤ y_53 ∧ y_53 ≤ (18446744073709551615 : Int)) →
   (
   (v_47.snd = true) →
   ((256 : Int) ≠ (0 : Int))) ∧
   ∀ (n58 : Int),
   (n58 = y_53.tmod (256 : Int)) →
   ∀ (n60 : Int),
   (n60 = IntKind.u64.wrap ((↑v_42.toNat : Int) + (1 : Int))) →
   (
   (v_47.snd = true) →
   ((256 : Int) ≠ (0 : Int))) ∧
   ∀ (n62 : Int),
   (n62 = n60.tmod (256 : Int)) →
   ∀ (n64 : Int),
   (n64 = IntKind.i64.wrap ((↑v_47.fst : Int) + (1 : Int))) →
   ((-9223372036854775808 : Int) ≤ n64 ∧ n64 ≤ (9223372036854775807 : Int)) →
   ∃ (v' : Nat × Bool),
   ((↑v_42.toNat : Int) + (1 : Int) = (↑v_42.toNat : Int) + (1 : Int)) ∧
   (bl = bl) ∧
   ((bif v_47.snd then n58 != n62 else false) = v'.snd) ∧
   (n64 = (↑v'.fst : Int)) ∧
   (
   (v'.fst ≤ bl.length) ∧
   (
    ((1 : Nat) ≤ bl.length) ∧
    (bl.length ≤ (32 : Nat))) ∧
   (v_42.toNat ≤ (4611686018427387935 : Nat)) ∧
   (FrI bl v'.fst ((↑v_42.toNat : Int) + (1 : Int)) v'.snd)) ∧
   (bl.length - v'.fst < bl.length - v_47.fst))
  (br (v_47.snd)
   ((k (AV.int IntKind.i64 ((↑v_42.toNat : Int) + (1 : Int))) [] []))
   (∃ (v' : Int),
    ((↑v_42.toNat : Int) + (1 : Int) = v') ∧
    (bl = bl) ∧
    (
    (
     ((1 : Nat) ≤ bl.length) ∧
     (bl.length ≤ (32 : Nat))) ∧
    (
     ((0 : Int) ≤ v') ∧
     (v' ≤ (4611686018427387935 : Int))) ∧
    (
     ((0 : Int) ≤ mxL g bl) ∧
     (mxL g bl ≤ (4611686018427387903 : Int)) ∧
     (mxL g bl ≤ v') ∧
     (v' ≤ mxL g bl + (32 : Int))) ∧
    (Sx g bl (v' + (1 : Int)))) ∧
    ((mxL g bl + (33 : Int) - v').toNat < (mxL g bl + (33 : Int) - v_42).toNat)))) := by
 refine ⟨?_, ?_⟩
 ·
  refine ⟨(Int.toNat (0 : Int), g), ?_⟩
  refine ⟨by first | with_reducible rfl | rfl, ?_⟩
  refine ⟨by first | with_reducible rfl | rfl, ?_⟩
  refine ⟨by show (0 : Int) = (↑(Int.toNat (0 : Int)) : Int); omega, ?_⟩
  refine ⟨by show Int.toNat (0 : Int) ≤ bl.length; omega, ?_⟩
  refine ⟨?_, ?_⟩
  ·
   have h1 : (1 : Nat) ≤ bl.length := by
    exact hb.1.n.1
   refine ⟨h1, ?_⟩
   exact hb.1.n.2
  refine ⟨by first | omega | (dsimp only; omega), ?_⟩
  exact mx_0 _ _
 intro v_1
 intro h2
 intro n3
 intro q3
 intro ⟨l3, u3⟩
 refine brd (fun c3 => ?_) (fun c3 => ?_)
 ·
  refine ⟨by first | omega | (dsimp only; omega), ?_⟩
  refine ⟨by first | omega | (dsimp only; omega), ?_⟩
  have h4 : (bl.getD (↑v_1.fst : Int).toNat (dflt (6 : Nat))).length = (64 : Nat) := by
   exact hb.1.get (i := v_1.fst) (by omega)
  refine ⟨h4, ?_⟩
  intro n6
  intro y_7
  intro h5
  intro h6
  intro ⟨a7, b7⟩
  intro ⟨a8, b8⟩
  refine brd (fun c9 => ?_) (fun c9 => ?_)
  ·
   intro n12
   intro q12
   first | (rw [wrI64] at q12; rotate_left 1; · omega) | rw [IntKind.wrap_i64] at q12
   intro ⟨l12, u12⟩
   intro n15
   intro q15
   intro ⟨l15, u15⟩
   refine brd (fun c10 => ?_) (fun c10 => ?_)
   ·
    intro n18
    intro q18
    first | (rw [wrI64] at q18; rotate_left 1; · omega) | rw [IntKind.wrap_i64] at q18
    intro ⟨l18, u18⟩
    intro n21
    intro q21
    intro ⟨l21, u21⟩
    intro n24
    intro q24
    first | (rw [wrI64] at q24; rotate_left 1; · omega) | rw [IntKind.wrap_i64] at q24
    intro ⟨l24, u24⟩
    refine ⟨(n24.toNat, n21), ?_⟩
    refine ⟨by first | with_reducible rfl | rfl, ?_⟩
    refine ⟨by first | with_reducible rfl | rfl, ?_⟩
    refine ⟨by show n24 = (↑n24.toNat : Int); omega, ?_⟩
    refine ⟨?_, ?_⟩
    ·
     refine ⟨by show n24.toNat ≤ bl.length; omega, ?_⟩
     refine ⟨by first | omega | (dsimp only; omega), ?_⟩
     refine ⟨by first | omega | (dsimp only; omega), ?_⟩
     have ei : n24.toNat = v_1.fst + 1 := by omega
     rw [ei]
     rw [Int.toNat_natCast] at h5 h6
     exact mx_step h2.2.2.2 (by omega) h5 h6 (by unfold mxE; omega)
    exact by show bl.length - n24.toNat < bl.length - v_1.fst; omega
   ·
    intro n27
    intro q27
    first | (rw [wrI64] at q27; rotate_left 1; · omega) | rw [IntKind.wrap_i64] at q27
    intro ⟨l27, u27⟩
    refine ⟨(n27.toNat, n15), ?_⟩
    refine ⟨by first | with_reducible rfl | rfl, ?_⟩
    refine ⟨by first | with_reducible rfl | rfl, ?_⟩
    refine ⟨by show n27 = (↑n27.toNat : Int); omega, ?_⟩
    refine ⟨?_, ?_⟩
    ·
     refine ⟨by show n27.toNat ≤ bl.length; omega, ?_⟩
     refine ⟨by first | omega | (dsimp only; omega), ?_⟩
     refine ⟨by first | omega | (dsimp only; omega), ?_⟩
     have ei : n27.toNat = v_1.fst + 1 := by omega
     rw [ei]
     rw [Int.toNat_natCast] at h5 h6
     exact mx_step h2.2.2.2 (by omega) h5 h6 (by unfold mxE; omega)
    exact by show bl.length - n27.toNat < bl.length - v_1.fst; omega
  ·
   refine brd (fun c11 => ?_) (fun c11 => ?_)
   ·
    intro n30
    intro q30
    first | (rw [wrI64] at q30; rotate_left 1; · omega) | rw [IntKind.wrap_i64] at q30
    intro ⟨l30, u30⟩
    intro n33
    intro q33
    intro ⟨l33, u33⟩
    intro n36
    intro q36
    first | (rw [wrI64] at q36; rotate_left 1; · omega) | rw [IntKind.wrap_i64] at q36
    intro ⟨l36, u36⟩
    refine ⟨(n36.toNat, n33), ?_⟩
    refine ⟨by first | with_reducible rfl | rfl, ?_⟩
    refine ⟨by first | with_reducible rfl | rfl, ?_⟩
    refine ⟨by show n36 = (↑n36.toNat : Int); omega, ?_⟩
    refine ⟨?_, ?_⟩
    ·
     refine ⟨by show n36.toNat ≤ bl.length; omega, ?_⟩
     refine ⟨by first | omega | (dsimp only; omega), ?_⟩
     refine ⟨by first | omega | (dsimp only; omega), ?_⟩
     have ei : n36.toNat = v_1.fst + 1 := by omega
     rw [ei]
     rw [Int.toNat_natCast] at h5 h6
     exact mx_step h2.2.2.2 (by omega) h5 h6 (by unfold mxE; omega)
    exact by show bl.length - n36.toNat < bl.length - v_1.fst; omega
   ·
    intro n39
    intro q39
    first | (rw [wrI64] at q39; rotate_left 1; · omega) | rw [IntKind.wrap_i64] at q39
    intro ⟨l39, u39⟩
    refine ⟨(n39.toNat, v_1.snd), ?_⟩
    refine ⟨by first | with_reducible rfl | rfl, ?_⟩
    refine ⟨by first | with_reducible rfl | rfl, ?_⟩
    refine ⟨by show n39 = (↑n39.toNat : Int); omega, ?_⟩
    refine ⟨?_, ?_⟩
    ·
     refine ⟨by show n39.toNat ≤ bl.length; omega, ?_⟩
     refine ⟨by first | omega | (dsimp only; omega), ?_⟩
     refine ⟨by first | omega | (dsimp only; omega), ?_⟩
     have ei : n39.toNat = v_1.fst + 1 := by omega
     rw [ei]
     rw [Int.toNat_natCast] at h5 h6
     exact mx_step h2.2.2.2 (by omega) h5 h6 (by unfold mxE; omega)
    exact by show bl.length - n39.toNat < bl.length - v_1.fst; omega
 ·
  refine ⟨?_, ?_⟩
  ·
   refine ⟨v_1.snd, ?_⟩
   refine ⟨by first | with_reducible rfl | rfl, ?_⟩
   refine ⟨by first | with_reducible rfl | rfl, ?_⟩
   refine ⟨by first | omega | (dsimp only; omega), ?_⟩
   refine ⟨by first | omega | (dsimp only; omega), ?_⟩
   refine ⟨?_, ?_⟩
   ·
    have h12 : (0 : Int) ≤ mxL g bl := by
     have i := mxL_in (bl := bl) (g := g) (by omega)
     have e := mx_all h2.2.2.2 (by omega)
     omega
    refine ⟨h12, ?_⟩
    have h13 : mxL g bl ≤ (4611686018427387903 : Int) := by
     have i := mxL_in (bl := bl) (g := g) (by omega)
     have e := mx_all h2.2.2.2 (by omega)
     omega
    refine ⟨h13, ?_⟩
    have h14 : mxL g bl ≤ v_1.snd := by
     have i := mxL_in (bl := bl) (g := g) (by omega)
     have e := mx_all h2.2.2.2 (by omega)
     omega
    refine ⟨h14, ?_⟩
    have i := mxL_in (bl := bl) (g := g) (by omega)
    have e := mx_all h2.2.2.2 (by omega)
    omega
   have i := mxL_in (bl := bl) (g := g) (by omega)
   have e := mx_all h2.2.2.2 (by omega)
   rw [e]; exact sx_0 _ _
  intro v_42
  intro h15
  intro n44
  intro q44
  first | (rw [wrI64] at q44; rotate_left 1; · omega) | rw [IntKind.wrap_i64] at q44
  intro ⟨l44, u44⟩
  refine ⟨?_, ?_⟩
  ·
   refine ⟨(Int.toNat (0 : Int), true), ?_⟩
   refine ⟨by show n44 = (↑v_42.toNat : Int) + (1 : Int); omega, ?_⟩
   refine ⟨by first | with_reducible rfl | rfl, ?_⟩
   refine ⟨by first | with_reducible rfl | rfl, ?_⟩
   refine ⟨by show (0 : Int) = (↑(Int.toNat (0 : Int)) : Int); omega, ?_⟩
   refine ⟨by show Int.toNat (0 : Int) ≤ bl.length; omega, ?_⟩
   refine ⟨by first | omega | (dsimp only; omega), ?_⟩
   refine ⟨by show v_42.toNat ≤ (4611686018427387935 : Nat); omega, ?_⟩
   exact fr_0 _ _
  intro v_47
  intro h16
  intro n49
  intro q49
  intro ⟨l49, u49⟩
  refine brd (fun c17 => ?_) (fun c17 => ?_)
  ·
   refine ⟨by first | omega | (dsimp only; omega), ?_⟩
   refine ⟨by first | omega | (dsimp only; omega), ?_⟩
   have h18 : (bl.getD (↑v_47.fst : Int).toNat (dflt (6 : Nat))).length = (64 : Nat) := by
    exact hb.1.get (i := v_47.fst) (by omega)
   refine ⟨h18, ?_⟩
   intro n52
   intro y_53
   intro h19
   intro h20
   intro ⟨a21, b21⟩
   intro ⟨a22, b22⟩
   refine ⟨?_, ?_⟩
   ·
    intro h23
    exact by omega
   intro n58
   intro q58
   rw [Int.tmod_eq_emod_of_nonneg (by omega)] at q58
   intro n60
   intro q60
   first | (rw [wrU64] at q60; rotate_left 1; · omega) | rw [IntKind.wrap_u64] at q60
   refine ⟨?_, ?_⟩
   ·
    intro q60
    exact by omega
   intro n62
   intro q62
   rw [Int.tmod_eq_emod_of_nonneg (by omega)] at q62
   intro n64
   intro q64
   first | (rw [wrI64] at q64; rotate_left 1; · omega) | rw [IntKind.wrap_i64] at q64
   intro ⟨l64, u64⟩
   refine ⟨(n64.toNat, bif v_47.snd then n58 != n62 else false), ?_⟩
   refine ⟨by first | with_reducible rfl | rfl, ?_⟩
   refine ⟨by first | with_reducible rfl | rfl, ?_⟩
   refine ⟨by first | with_reducible rfl | rfl, ?_⟩
   refine ⟨by show n64 = (↑n64.toNat : Int); omega, ?_⟩
   refine ⟨?_, ?_⟩
   ·
    refine ⟨by show n64.toNat ≤ bl.length; omega, ?_⟩
    refine ⟨by first | omega | (dsimp only; omega), ?_⟩
    refine ⟨by show v_42.toNat ≤ (4611686018427387935 : Nat); omega, ?_⟩
    have ei : n64.toNat = v_47.fst + 1 := by omega
    rw [ei]
    have ge := gV_end (hb.1.get (i := v_47.fst) (by omega))
    rw [Int.toNat_natCast] at h20
    have hy : y_53 = gV (List.drop 56 (bl.getD v_47.fst [])) := h20
    rw [← hy] at ge
    have e1 : n58 = ((bl.getD v_47.fst []).getD 56 0).toNat := by omega
    refine fr_step h16.2.2.2 (by omega) ?_
    cases v_47.snd
    ·
     simp
    ·
     simp only [cond_true, bne_iff_ne, true_and]
     omega
   exact by show bl.length - n64.toNat < bl.length - v_47.fst; omega
  ·
   refine br_intro (fun c24 => ?_) (fun c24 => ?_)
   ·
    have ev : ((v_42.toNat : Nat) : Int) = v_42 := by omega
    have S := h15.2.2.2
    rw [← ev] at S
    exact hk _ (sx_end S ((fr_all h16.2.2.2 (by omega)).1 (by assumption))) (by omega)
   ·
    refine ⟨(↑v_42.toNat : Int) + (1 : Int), ?_⟩
    refine ⟨by first | with_reducible rfl | rfl, ?_⟩
    refine ⟨by first | with_reducible rfl | rfl, ?_⟩
    refine ⟨?_, ?_⟩
    ·
     refine ⟨by first | omega | (dsimp only; omega), ?_⟩
     refine ⟨?_, ?_⟩
     ·
      refine ⟨by show (0 : Int) ≤ (↑v_42.toNat : Int) + (1 : Int); omega, ?_⟩
      have CF : v_47.snd = false := by assumption
      have ev : ((v_42.toNat : Nat) : Int) = v_42 := by omega
      have S := h15.2.2.2
      rw [← ev] at S
      have F0 : ¬ freeB bl ((v_42.toNat : Int) + 1) := fun c => by have := (fr_all h16.2.2.2 (by omega)).2 c; rw [this] at CF; cases CF
      have S1 := sx_step hb.1.n.2 S F0
      have hi := S1.hi
      omega
     refine ⟨?_, ?_⟩
     ·
      refine ⟨by show (0 : Int) ≤ mxL g bl; omega, ?_⟩
      refine ⟨by show mxL g bl ≤ (4611686018427387903 : Int); omega, ?_⟩
      refine ⟨by show mxL g bl ≤ (↑v_42.toNat : Int) + (1 : Int); omega, ?_⟩
      have CF : v_47.snd = false := by assumption
      have ev : ((v_42.toNat : Nat) : Int) = v_42 := by omega
      have S := h15.2.2.2
      rw [← ev] at S
      have F0 : ¬ freeB bl ((v_42.toNat : Int) + 1) := fun c => by have := (fr_all h16.2.2.2 (by omega)).2 c; rw [this] at CF; cases CF
      have S1 := sx_step hb.1.n.2 S F0
      have hi := S1.hi
      omega
     have CF : v_47.snd = false := by assumption
     have ev : ((v_42.toNat : Nat) : Int) = v_42 := by omega
     have S := h15.2.2.2
     rw [← ev] at S
     have F0 : ¬ freeB bl ((v_42.toNat : Int) + 1) := fun c => by have := (fr_all h16.2.2.2 (by omega)).2 c; rw [this] at CF; cases CF
     have S1 := sx_step hb.1.n.2 S F0
     have hi := S1.hi
     exact S1
    exact by show (mxL g bl + (33 : Int) - ((↑v_42.toNat : Int) + (1 : Int))).toNat < (mxL g bl + (33 : Int) - v_42).toNat; omega

theorem newest_ok : Holds Try.prog 49 newestS := by
  refine fn_sound (env := mkEnv F5) (tab_ok F5_ok) Try.func49 Try.call49 fun args k h => ?_
  match args, h with
  | [.int .i64 g, .sl 6 bl], h => exact ⟨by kernel_rfl, newestLoops g bl, fun _ _ => none, .cast (by kernel_rfl) (newest_vc g bl h.1 k h.2)⟩
theorem F6_ok : TabOk Try.prog F6 := ⟨rslotT_ok, keptT_ok, askd_ok, trivial⟩
set_option maxHeartbeats 2000000 in
theorem rcounts_vc (d : List UInt8) (hd : D2 d) (k : AV → List (Option Blk) → List Blk → Prop) (hk : (∀ (c g m : Int) (ps : List Plan), Cd d c g m ps → c = (0 : Int) ∨ c = (1 : Int) → k (AV.tup [AV.int IntKind.i64 c, AV.agg [AV.int IntKind.i64 g, AV.int IntKind.u8 m, AV.sl (10 : Nat) ps]]) [] []) ∧ (Cd d (-1 : Int) (0 : Int) (0 : Int) [] → k (AV.tup [AV.int IntKind.i64 (-1 : Int), AV.agg [AV.int IntKind.i64 (0 : Int), AV.int IntKind.u8 (0 : Int), AV.nilsl]]) [] [])) :
 (
 (D2 d) ∧
 ((0 : Int) ≤ (0 : Int)) ∧
 ((0 : Int) ≤ (1 : Int))) ∧
 ∀ (bl_1 : List (List UInt8)),
 (bl_1 = slotL d (0 : Int)) →
 (B64 bl_1) ∧
 ∀ (h_3 : Bool),
 ∀ (g_4 : Int),
 ∀ (m_5 : Int),
 ∀ (ps_6 : List Plan),
 (KF bl_1 h_3 g_4 m_5 ps_6) →
 ((0 : Int) ≤ g_4 ∧ g_4 ≤ (4611686018427387903 : Int)) →
 ((0 : Int) ≤ m_5 ∧ m_5 ≤ (3 : Int)) →
 (ps_6.length ≤ (8 : Nat)) →
 (
 (D2 d) ∧
 ((0 : Int) ≤ (1 : Int)) ∧
 ((1 : Int) ≤ (1 : Int))) ∧
 ∀ (bl_11 : List (List UInt8)),
 (bl_11 = slotL d (1 : Int)) →
 (B64 bl_11) ∧
 ∀ (h_13 : Bool),
 ∀ (g_14 : Int),
 ∀ (m_15 : Int),
 ∀ (ps_16 : List Plan),
 (KF bl_11 h_13 g_14 m_15 ps_16) →
 ((0 : Int) ≤ g_14 ∧ g_14 ≤ (4611686018427387903 : Int)) →
 ((0 : Int) ≤ m_15 ∧ m_15 ≤ (3 : Int)) →
 (ps_16.length ≤ (8 : Nat)) →
 ∀ (n21 : Int),
 (n21 = g_4) →
 ∀ (n23 : Int),
 (n23 = g_14) →
 br (bif h_3 then bif !h_13 then true else decide (n21 ≥ n23) else false)
 ((k (AV.tup [AV.int IntKind.i64 (0 : Int), AV.agg [AV.int IntKind.i64 g_4, AV.int IntKind.u8 m_5, AV.sl (10 : Nat) ps_6]]) [] []))
 (br (h_13)
  ((k (AV.tup [AV.int IntKind.i64 (1 : Int), AV.agg [AV.int IntKind.i64 g_14, AV.int IntKind.u8 m_15, AV.sl (10 : Nat) ps_16]]) [] []))
  ((k (AV.tup [AV.int IntKind.i64 (-1 : Int), AV.agg [AV.int IntKind.i64 (0 : Int), AV.int IntKind.u8 (0 : Int), AV.nilsl]]) [] []))) := by
 refine ⟨?_, ?_⟩
 ·
  refine ⟨by assumption, ?_⟩
  refine ⟨by first | omega | (dsimp only; omega), ?_⟩
  exact by omega
 intro bl_1
 intro h1
 have h2 : B64 bl_1 := by
  rw [h1]; exact slot_b64 hd (by omega)
 refine ⟨h2, ?_⟩
 intro h_3
 intro g_4
 intro m_5
 intro ps_6
 intro h3
 intro ⟨a4, b4⟩
 intro ⟨a5, b5⟩
 intro h6
 refine ⟨?_, ?_⟩
 ·
  refine ⟨by assumption, ?_⟩
  refine ⟨by first | omega | (dsimp only; omega), ?_⟩
  exact by omega
 intro bl_11
 intro h7
 have h8 : B64 bl_11 := by
  rw [h7]; exact slot_b64 hd (by omega)
 refine ⟨h8, ?_⟩
 intro h_13
 intro g_14
 intro m_15
 intro ps_16
 intro h9
 intro ⟨a10, b10⟩
 intro ⟨a11, b11⟩
 intro h12
 intro n21
 intro q21
 intro n23
 intro q23
 refine br_intro (fun c13 => ?_) (fun c13 => ?_)
 ·
  simp at c13
  rw [h1] at h3; rw [h7] at h9
  have K := h3.dk h9
  exact hk.1 _ _ _ _ (K.c0 ⟨c13.1, fun x => by rcases c13.2 with y | y; (rw [x] at y; cases y); omega⟩) (.inl rfl)
 ·
  simp at c13
  refine br_intro (fun c14 => ?_) (fun c14 => ?_)
  ·
   rw [h1] at h3; rw [h7] at h9
   have K := h3.dk h9
   exact hk.1 _ _ _ _ (K.c1 (fun x => by have y := c13 x.1; have := x.2 y.1; omega) (by assumption)) (.inr rfl)
  ·
   rw [h1] at h3; rw [h7] at h9
   have K := h3.dk h9
   exact hk.2 (K.c2 (fun x => by have y := c13 x.1; have := x.2 y.1; omega) (by assumption))

theorem rcounts_ok : Holds Try.prog 46 rcountsS := by
  refine fn_sound (env := mkEnv F6) (tab_ok F6_ok) Try.func46 Try.call46 fun args k h => ?_
  match args, h with
  | [.agg [.sl 0 d]], h => exact ⟨by kernel_rfl, fun _ _ => none, fun _ _ => none, .cast (by kernel_rfl) (rcounts_vc d h.1 k h.2)⟩
theorem rcountsT_ok : Holds Try.prog 46 rcountsT := rcounts_up rcounts_ok
set_option maxHeartbeats 2000000 in
theorem rSlot_vc (d : List UInt8) (i : Int) (k : AV → List (Option Blk) → List Blk → Prop) (hk : (∀ (e : Int), e = askD d → e ≠ (0 : Int) → k (AV.tup [AV.agg [AV.int IntKind.i64 (0 : Int), AV.int IntKind.u8 (0 : Int), AV.nilsl], AV.int IntKind.i64 e]) [] []) ∧ (D2 d → ¬(i = (0 : Int) ∨ i = (1 : Int)) → k (AV.tup [AV.agg [AV.int IntKind.i64 (0 : Int), AV.int IntKind.u8 (0 : Int), AV.nilsl], AV.int IntKind.i64 (2 : Int)]) [] []) ∧ (D2 d → i = (0 : Int) ∨ i = (1 : Int) → KF (slotL d i) false (0 : Int) (0 : Int) [] → k (AV.tup [AV.agg [AV.int IntKind.i64 (0 : Int), AV.int IntKind.u8 (0 : Int), AV.nilsl], AV.int IntKind.i64 (8 : Int)]) [] []) ∧ (D2 d → i = (0 : Int) ∨ i = (1 : Int) → ∀ (g m : Int) (ps : List Plan), KF (slotL d i) true g m ps → k (AV.tup [AV.agg [AV.int IntKind.i64 g, AV.int IntKind.u8 m, AV.sl (10 : Nat) ps], AV.int IntKind.i64 (0 : Int)]) [] [])) :
 ∀ (e_1 : Int),
 (e_1 = askD d) →
 (e_1 = (0 : Int) ∨ e_1 = (180 : Int) ∨ e_1 = (190 : Int)) →
 br (e_1 != (0 : Int))
 ((k (AV.tup [AV.agg [AV.int IntKind.i64 (0 : Int), AV.int IntKind.u8 (0 : Int), AV.nilsl], AV.int IntKind.i64 e_1]) [] []))
 (br (bif i != (0 : Int) then i != (1 : Int) else false)
  ((k (AV.tup [AV.agg [AV.int IntKind.i64 (0 : Int), AV.int IntKind.u8 (0 : Int), AV.nilsl], AV.int IntKind.i64 (2 : Int)]) [] []))
  ((
   (D2 d) ∧
   ((0 : Int) ≤ i) ∧
   (i ≤ (1 : Int))) ∧
   ∀ (bl_4 : List (List UInt8)),
   (bl_4 = slotL d i) →
   (B64 bl_4) ∧
   ∀ (h_6 : Bool),
   ∀ (g_7 : Int),
   ∀ (m_8 : Int),
   ∀ (ps_9 : List Plan),
   (KF bl_4 h_6 g_7 m_8 ps_9) →
   ((0 : Int) ≤ g_7 ∧ g_7 ≤ (4611686018427387903 : Int)) →
   ((0 : Int) ≤ m_8 ∧ m_8 ≤ (3 : Int)) →
   (ps_9.length ≤ (8 : Nat)) →
   br (!h_6)
   ((k (AV.tup [AV.agg [AV.int IntKind.i64 (0 : Int), AV.int IntKind.u8 (0 : Int), AV.nilsl], AV.int IntKind.i64 (8 : Int)]) [] []))
   ((k (AV.tup [AV.agg [AV.int IntKind.i64 g_7, AV.int IntKind.u8 m_8, AV.sl (10 : Nat) ps_9], AV.int IntKind.i64 (0 : Int)]) [] [])))) := by
 intro e_1
 intro h1
 intro h2
 refine br_intro (fun c3 => ?_) (fun c3 => ?_)
 ·
  simp at c3
  exact hk.1 _ h1 c3
 ·
  simp at c3
  refine br_intro (fun c4 => ?_) (fun c4 => ?_)
  ·
   simp at c4
   exact hk.2.1 (askD_0 (h1.symm.trans c3)) (by omega)
  ·
   simp at c4
   refine ⟨?_, ?_⟩
   ·
    have h5 : D2 d := by
     exact askD_0 (h1.symm.trans c3)
    refine ⟨h5, ?_⟩
    refine ⟨by first | omega | (dsimp only; omega), ?_⟩
    exact by omega
   intro bl_4
   intro h6
   have h7 : B64 bl_4 := by
    rw [h6]; exact slot_b64 (askD_0 (h1.symm.trans c3)) (by omega)
   refine ⟨h7, ?_⟩
   intro h_6
   intro g_7
   intro m_8
   intro ps_9
   intro h8
   intro ⟨a9, b9⟩
   intro ⟨a10, b10⟩
   intro h11
   refine br_intro (fun c12 => ?_) (fun c12 => ?_)
   ·
    simp at c12
    have o := askD_0 (h1.symm.trans c3)
    rw [h6] at h8
    have c := c12
    subst c
    obtain ⟨rfl, rfl, rfl, -⟩ := h8.no rfl
    exact hk.2.2.1 o (by omega) h8
   ·
    simp at c12
    have o := askD_0 (h1.symm.trans c3)
    rw [h6] at h8
    have c := c12
    subst c
    exact hk.2.2.2 o (by omega) _ _ _ h8

theorem rSlot_ok : Holds Try.prog 22 rSlotS := by
  refine fn_sound (env := mkEnv F6) (tab_ok F6_ok) Try.func22 Try.call22 fun args k h => ?_
  match args, h with
  | [.agg [.sl 0 d], .int .i64 i], h => exact ⟨by kernel_rfl, fun _ _ => none, fun _ _ => none, .cast (by kernel_rfl) (rSlot_vc d i k h)⟩
theorem rSlotT_ok : Holds Try.prog 22 rSlotT := rSlot_up rSlot_ok
theorem F7_ok : TabOk Try.prog F7 := ⟨rcountsT_ok, askd_ok, trivial⟩
set_option maxHeartbeats 2000000 in
theorem rRead_vc (d : List UInt8) (k : AV → List (Option Blk) → List Blk → Prop) (hk : (∀ (e : Int), e = askD d → e ≠ (0 : Int) → k (AV.tup [AV.agg [AV.int IntKind.i64 (0 : Int), AV.int IntKind.u8 (0 : Int), AV.nilsl], AV.int IntKind.i64 e]) [] []) ∧ (D2 d → Cd d (-1 : Int) (0 : Int) (0 : Int) [] → k (AV.tup [AV.agg [AV.int IntKind.i64 (0 : Int), AV.int IntKind.u8 (0 : Int), AV.nilsl], AV.int IntKind.i64 (190 : Int)]) [] []) ∧ (D2 d → ∀ (c g m : Int) (ps : List Plan), Cd d c g m ps → c = (0 : Int) ∨ c = (1 : Int) → k (AV.tup [AV.agg [AV.int IntKind.i64 g, AV.int IntKind.u8 m, AV.sl (10 : Nat) ps], AV.int IntKind.i64 (0 : Int)]) [] [])) :
 ∀ (e_1 : Int),
 (e_1 = askD d) →
 (e_1 = (0 : Int) ∨ e_1 = (180 : Int) ∨ e_1 = (190 : Int)) →
 br (e_1 != (0 : Int))
 ((k (AV.tup [AV.agg [AV.int IntKind.i64 (0 : Int), AV.int IntKind.u8 (0 : Int), AV.nilsl], AV.int IntKind.i64 e_1]) [] []))
 ((D2 d) ∧
  ∀ (c_4 : Int),
  ∀ (g_5 : Int),
  ∀ (m_6 : Int),
  ∀ (ps_7 : List Plan),
  (Cd d c_4 g_5 m_6 ps_7) →
  ((-1 : Int) ≤ c_4 ∧ c_4 ≤ (1 : Int)) →
  ((0 : Int) ≤ g_5 ∧ g_5 ≤ (4611686018427387903 : Int)) →
  ((0 : Int) ≤ m_6 ∧ m_6 ≤ (3 : Int)) →
  (ps_7.length ≤ (8 : Nat)) →
  br (decide (c_4 < (0 : Int)))
  ((k (AV.tup [AV.agg [AV.int IntKind.i64 (0 : Int), AV.int IntKind.u8 (0 : Int), AV.nilsl], AV.int IntKind.i64 (190 : Int)]) [] []))
  ((k (AV.tup [AV.agg [AV.int IntKind.i64 g_5, AV.int IntKind.u8 m_6, AV.sl (10 : Nat) ps_7], AV.int IntKind.i64 (0 : Int)]) [] []))) := by
 intro e_1
 intro h1
 intro h2
 refine br_intro (fun c3 => ?_) (fun c3 => ?_)
 ·
  simp at c3
  exact hk.1 _ h1 c3
 ·
  simp at c3
  have h4 : D2 d := by
   exact askD_0 (h1.symm.trans c3)
  refine ⟨h4, ?_⟩
  intro c_4
  intro g_5
  intro m_6
  intro ps_7
  intro h5
  intro ⟨a6, b6⟩
  intro ⟨a7, b7⟩
  intro ⟨a8, b8⟩
  intro h9
  refine brd (fun c10 => ?_) (fun c10 => ?_)
  ·
   have e : c_4 = -1 := by omega
   subst e
   obtain ⟨_, _, _, _, _, _, _, _, _, _, _, _, z⟩ := h5.h
   obtain ⟨rfl, rfl, rfl⟩ := z rfl
   exact hk.2.1 h4 h5
  ·
   exact hk.2.2 h4 _ _ _ _ h5 (by omega)

theorem rRead_ok : Holds Try.prog 18 rReadS := by
  refine fn_sound (env := mkEnv F7) (tab_ok F7_ok) Try.func18 Try.call18 fun args k h => ?_
  match args, h with
  | [.agg [.sl 0 d]], h => exact ⟨by kernel_rfl, fun _ _ => none, fun _ _ => none, .cast (by kernel_rfl) (rRead_vc d k h)⟩
theorem rReadT_ok : Holds Try.prog 18 rReadT := rRead_up rRead_ok
end Go.Proofs.Ytcdflgfhkohldaa

