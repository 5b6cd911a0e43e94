import Derived.Test.YtcdflgfhkohldaaStN
namespace Go.Proofs.Ytcdflgfhkohldaa
open Go Go.Eng Go.Rw Go.Lk Go.Proofs
open Go.Bk hiding take_step drop_step set_mid
open Go.St hiding take_step
set_option linter.unusedVariables false
set_option maxHeartbeats 2000000 in
theorem parts_vc (b : List UInt8) (hb : b.length ≤ (1000000 : Nat)) (k : AV → List (Option Blk) → List Blk → Prop) (hk : (∀ (l : List Plan) (n : Nat), St.PR b (0 : Int) l → l.length = n → k (AV.tup [AV.row (10 : Nat) (0 : Nat) (0 : Nat) n, AV.int IntKind.i64 (0 : Int)]) [] [Blk.row (10 : Nat) l]) ∧ (St.PR b (8 : Int) [] → k (AV.tup [AV.nilsl, AV.int IntKind.i64 (8 : Int)]) [] [])) :
 (b.length ≤ (1000000 : Nat)) ∧
 ∀ (l_1 : List Plan),
 ∀ (q_2 : Nat),
 ∀ (r_3 : List UInt8),
 ∀ (bd_4 : Bool),
 (PIn b (oneV (8 : Int) b).toNat bd_4 r_3 l_1) →
 (l_1.length = q_2) →
 (q_2 ≤ (8 : Nat)) →
 (r_3.length ≤ b.length) →
 ∀ (e_9 : Int),
 ∀ (ys_10 : List UInt8),
 ∀ (n_11 : Nat),
 (e_9 = wholeE (List.take q_2 (List.drop (0 : Nat) l_1))) →
 (e_9 = (0 : Int) ∨ e_9 = (4 : Int) ∨ e_9 = (170 : Int)) →
 (ys_10 = wholeO (List.take q_2 (List.drop (0 : Nat) l_1))) →
 (ys_10.length = n_11) →
 (n_11 ≤ (1000 : Nat)) →
 br (bif bd_4 then true else e_9 != (0 : Int))
 ((true = true) ∧
  (k (AV.tup [AV.nilsl, AV.int IntKind.i64 (8 : Int)]) [] []))
 (∀ (r_17 : Bool),
  (r_17 = true ↔ List.take n_11 (List.drop (0 : Nat) ys_10) = b) →
  br (bif false then true else !r_17)
  ((k (AV.tup [AV.nilsl, AV.int IntKind.i64 (8 : Int)]) [] []))
  ((k (AV.tup [AV.row (10 : Nat) (0 : Nat) (0 : Nat) q_2, AV.int IntKind.i64 (0 : Int)]) [] [Blk.row (10 : Nat) l_1]))) := by
 refine ⟨by assumption, ?_⟩
 intro l_1
 intro q_2
 intro r_3
 intro bd_4
 intro h1
 intro h2
 intro h3
 intro h4
 intro e_9
 intro ys_10
 intro n_11
 intro h5
 intro h6
 intro h7
 intro h8
 intro h9
 refine br_intro (fun c10 => ?_) (fun c10 => ?_)
 ·
  simp at c10
  refine ⟨by with_reducible rfl, ?_⟩
  rw [ks_all' h2] at h5 h7
  cases bd_4 with
  | true => exact hk.2 (pr_bad (h1.no rfl))
  | false => exact hk.2 (pr_no (pin_end h1 rfl) (by rintro ⟨c, -⟩; simp at c10; omega))
 ·
  simp at c10
  intro r_17
  intro h11
  refine br_intro (fun c12 => ?_) (fun c12 => ?_)
  ·
   simp at c12
   rw [ks_all' h2] at h5 h7
   rw [List.drop_zero, ← h8, List.take_length] at h11
   have hb := c10.1
   subst hb
   exact hk.2 (pr_no (pin_end h1 rfl) (by rintro ⟨-, c⟩; rw [h11.2 (h7.trans c)] at c12; cases c12))
  ·
   simp at c12
   rw [ks_all' h2] at h5 h7
   rw [List.drop_zero, ← h8, List.take_length] at h11
   exact hk.1 _ _ (pr_yes (by rw [← h5]; exact c10.2) (by rw [← h7]; exact h11.1 c12)) h2

theorem parts_ok : Holds Try.prog 76 partsS := by
  refine fn_sound (env := mkEnv F2) (tab_ok F2_ok) Try.func76 Try.call76 fun args k h => ?_
  match args, h with
  | [.sl 0 b], h => exact ⟨by kernel_rfl, fun _ _ => none, fun _ _ => none, .cast (by kernel_rfl) (parts_vc b h.1 k h.2)⟩
theorem partsT_ok : Holds Try.prog 76 partsT := parts_up parts_ok
set_option maxHeartbeats 2000000 in
theorem blocks_vc (g : Int) (m : Int) (ps : List Plan) (n : Int) (hg : ((-9223372036854775808 : Int) ≤ g ∧ g ≤ (9223372036854775807 : Int)) ∧ (0 : Int) ≤ m ∧ m ≤ (255 : Int)) (k : AV → List (Option Blk) → List Blk → Prop) (hk : (∀ (e : Int), e = blkE g m ps n → e ≠ (0 : Int) → (0 : Int) ≤ e ∧ e ≤ (190 : Int) → k (AV.tup [AV.nilsl, AV.int IntKind.i64 e]) [] []) ∧ (blkE g m ps n = (0 : Int) → ∀ (bl : List (List UInt8)) (q : Nat), bl = blkO g m ps n → bl.length = q → k (AV.tup [AV.row (6 : Nat) (0 : Nat) (0 : Nat) q, AV.int IntKind.i64 (0 : Int)]) [] [Blk.row (6 : Nat) bl])) :
 br (bif decide (n < (1 : Int)) then true else decide (n > (32 : Int)))
 ((k (AV.tup [AV.nilsl, AV.int IntKind.i64 (2 : Int)]) [] []))
 (∀ (n1 : Int),
  (n1 = g) →
  ((-9223372036854775808 : Int) ≤ n1 ∧ n1 ≤ (9223372036854775807 : Int)) →
  ∀ (n4 : Int),
  (n4 = g) →
  ∀ (n6 : Int),
  (n6 = m) →
  br (bif bif decide (n1 < (1 : Int)) then true else decide (n4 ≥ (4611686018427387904 : Int)) then true else decide (n6 > (3 : Int)))
  ((k (AV.tup [AV.nilsl, AV.int IntKind.i64 (190 : Int)]) [] []))
  (∀ (e_8 : Int),
   ∀ (ys_9 : List UInt8),
   ∀ (n_10 : Nat),
   (e_8 = wholeE ps) →
   (e_8 = (0 : Int) ∨ e_8 = (4 : Int) ∨ e_8 = (170 : Int)) →
   (ys_9 = wholeO ps) →
   (ys_9.length = n_10) →
   (n_10 ≤ (1000 : Nat)) →
   br (e_8 != (0 : Int))
   ((k (AV.tup [AV.nilsl, AV.int IntKind.i64 e_8]) [] []))
   (∀ (n16 : Int),
    (n16 = m) →
    ((0 : Int) ≤ n16 ∧ n16 ≤ (255 : Int)) →
    ∀ (n19 : Int),
    (n19 = IntKind.u64.wrap n16) →
    ((0 : Int) ≤ n19 ∧ n19 ≤ (18446744073709551615 : Int)) →
    (
    ((0 : Int) ≤ n19) ∧
    (n19 ≤ (18446744073709551615 : Int))) ∧
    ∀ (ys_22 : List UInt8),
    ∀ (q_23 : Nat),
    (ys_22 = smallL n19.toNat) →
    (ys_22.length = q_23) →
    (q_23 ≤ (10 : Nat)) →
    ((q_23 + n_10) * (1 : Nat) ≤ (140737488355328 : Nat)) ∧
    ∀ (z27 : List UInt8),
    (z27 = List.take q_23 ys_22 ++ List.take n_10 (List.drop (0 : Nat) ys_9)) →
    ∀ (n29 : Int),
    (n29 = (↑(q_23 + n_10) : Int)) →
    ((-9223372036854775808 : Int) ≤ n29 ∧ n29 ≤ (9223372036854775807 : Int)) →
    ∀ (n32 : Int),
    (n32 = IntKind.u64.wrap n29) →
    ((0 : Int) ≤ n32 ∧ n32 ≤ (18446744073709551615 : Int)) →
    (
    ((0 : Int) ≤ n32) ∧
    (n32 ≤ (18446744073709551615 : Int))) ∧
    ∀ (ys_35 : List UInt8),
    ∀ (q_36 : Nat),
    (ys_35 = smallL n32.toNat) →
    (ys_35.length = q_36) →
    (q_36 ≤ (10 : Nat)) →
    ((q_36 + (q_23 + n_10)) * (1 : Nat) ≤ (140737488355328 : Nat)) ∧
    ∀ (z40 : List UInt8),
    (z40 = List.take q_36 ys_35 ++ List.take (q_23 + n_10) (List.drop (0 : Nat) z27)) →
    ∀ (n42 : Int),
    (n42 = (↑(q_36 + (q_23 + n_10)) : Int)) →
    ((-9223372036854775808 : Int) ≤ n42 ∧ n42 ≤ (9223372036854775807 : Int)) →
    ∀ (n45 : Int),
    (n45 = IntKind.i64.wrap ((48 : Int) * n)) →
    ((-9223372036854775808 : Int) ≤ n45 ∧ n45 ≤ (9223372036854775807 : Int)) →
    br (decide (n42 > n45))
    ((k (AV.tup [AV.nilsl, AV.int IntKind.i64 (190 : Int)]) [] []))
    (∀ (n48 : Int),
     (n48 = IntKind.i64.wrap ((48 : Int) * n)) →
     ((-9223372036854775808 : Int) ≤ n48 ∧ n48 ≤ (9223372036854775807 : Int)) →
     ∀ (n51 : Int),
     (n51 = (↑(q_36 + (q_23 + n_10)) : Int)) →
     ((-9223372036854775808 : Int) ≤ n51 ∧ n51 ≤ (9223372036854775807 : Int)) →
     ∀ (n54 : Int),
     (n54 = IntKind.i64.wrap (n48 - n51)) →
     ((-9223372036854775808 : Int) ≤ n54 ∧ n54 ≤ (9223372036854775807 : Int)) →
     ((0 : Int) ≤ n54) ∧
     ((q_36 + (q_23 + n_10) + n54.toNat) * (1 : Nat) ≤ (140737488355328 : Nat)) ∧
     ∀ (z57 : List UInt8),
     (z57 = List.take (q_36 + (q_23 + n_10)) z40 ++ List.replicate n54.toNat (UInt8.ofNat (Int.toNat (0 : Int)))) →
     ∀ (n59 : Int),
     (n59 = g) →
     ((-9223372036854775808 : Int) ≤ n59 ∧ n59 ≤ (9223372036854775807 : Int)) →
     ∀ (n62 : Int),
     (n62 = IntKind.u64.wrap n59) →
     ((0 : Int) ≤ n62 ∧ n62 ≤ (18446744073709551615 : Int)) →
     (
     ((0 : Int) ≤ n62) ∧
     (n62 ≤ (18446744073709551615 : Int))) ∧
     (
     ((-9223372036854775808 : Int) ≤ (8 : Int)) ∧
     ((8 : Int) ≤ (9223372036854775807 : Int))) ∧
     ∀ (ys_65 : List UInt8),
     ∀ (q_66 : Nat),
     ∀ (e_67 : Int),
     (ys_65 = putF n62 (8 : Int)) →
     (ys_65.length = q_66) →
     (e_67 = putE n62 (8 : Int)) →
     (e_67 = (0 : Int) ∨ e_67 = (2 : Int)) →
     (
     ∃ (v : Nat × List (List UInt8) × List UInt8 × List UInt8),
     (List.take (q_36 + (q_23 + n_10) + n54.toNat) (List.drop (0 : Nat) z57) = v.snd.snd.fst) ∧
     (List.take q_66 (List.drop (0 : Nat) ys_65) = v.snd.snd.snd) ∧
     ((0 : Nat) = (0 : Nat)) ∧
     ((0 : Nat) = v.fst) ∧
     (n = n) ∧
     ((0 : Int) = (↑v.fst : Int)) ∧
     ([] = v.snd.fst) ∧
     (v.fst ≤ n.toNat) ∧
     (Laid g m n ps) ∧
     (
      ((1 : Int) ≤ n) ∧
      (n ≤ (32 : Int))) ∧
     (v.snd.snd.fst.length = (48 : Nat) * n.toNat) ∧
     (v.snd.fst.length = v.fst) ∧
     (BIn g m ps n v.fst v.snd.fst v.snd.snd.fst v.snd.snd.snd)) ∧
     ∀ (v_72 : Nat × List (List UInt8) × List UInt8 × List UInt8),
     (v_72.fst ≤ n.toNat ∧ Laid g m n ps ∧ ((1 : Int) ≤ n ∧ n ≤ (32 : Int)) ∧ v_72.snd.snd.fst.length = (48 : Nat) * n.toNat ∧ v_72.snd.fst.length = v_72.fst ∧ BIn g m ps n v_72.fst v_72.snd.fst v_72.snd.snd.fst v_72.snd.snd.snd) →
     br (decide ((↑v_72.fst : Int) < n))
     (∀ (n74 : Int),
      (n74 = IntKind.i64.wrap ((↑v_72.fst : Int) * (48 : Int))) →
      ((-9223372036854775808 : Int) ≤ n74 ∧ n74 ≤ (9223372036854775807 : Int)) →
      ((0 : Int) ≤ n74) ∧
      (n74 ≤ (↑v_72.snd.snd.fst.length : Int)) ∧
      ((0 : Int) ≤ (48 : Int)) ∧
      ((48 : Int) ≤ (↑(List.drop n74.toNat v_72.snd.snd.fst).length : Int)) ∧
      (
      ((2 : Nat) ≤ (List.take (3 : Nat) (List.drop (0 : Nat) [v_72.snd.snd.snd, List.take (Int.toNat (48 : Int)) (List.drop n74.toNat v_72.snd.snd.fst), v_72.snd.snd.snd])).length) ∧
      ((List.take (3 : Nat) (List.drop (0 : Nat) [v_72.snd.snd.snd, List.take (Int.toNat (48 : Int)) (List.drop n74.toNat v_72.snd.snd.fst), v_72.snd.snd.snd])).length ≤ (1000 : Nat)) ∧
      ((List.take (3 : Nat) (List.drop (0 : Nat) [v_72.snd.snd.snd, List.take (Int.toNat (48 : Int)) (List.drop n74.toNat v_72.snd.snd.fst), v_72.snd.snd.snd])).flatten.length ≤ (100000 : Nat))) ∧
      ∀ (ys_77 : List UInt8),
      ∀ (n_78 : Nat),
      (ys_77 = (List.take (3 : Nat) (List.drop (0 : Nat) [v_72.snd.snd.snd, List.take (Int.toNat (48 : Int)) (List.drop n74.toNat v_72.snd.snd.fst), v_72.snd.snd.snd])).flatten) →
      (ys_77.length = n_78) →
      ((v_72.fst + (1 : Nat)) * (24 : Nat) ≤ (140737488355328 : Nat)) ∧
      ∀ (z81 : List (List UInt8)),
      (z81 = List.take v_72.fst v_72.snd.fst ++ List.take (1 : Nat) (List.drop (0 : Nat) [List.take n_78 (List.drop (0 : Nat) ys_77)])) →
      ∀ (n83 : Int),
      (n83 = IntKind.i64.wrap ((↑v_72.fst : Int) + (1 : Int))) →
      ((-9223372036854775808 : Int) ≤ n83 ∧ n83 ≤ (9223372036854775807 : Int)) →
      ∃ (v' : Nat × List (List UInt8) × List UInt8 × List UInt8),
      (v_72.snd.snd.fst = v'.snd.snd.fst) ∧
      (v_72.snd.snd.snd = v'.snd.snd.snd) ∧
      ((0 : Nat) = (0 : Nat)) ∧
      (v_72.fst + (1 : Nat) = v'.fst) ∧
      (n = n) ∧
      (n83 = (↑v'.fst : Int)) ∧
      (z81 = v'.snd.fst) ∧
      (
      (v'.fst ≤ n.toNat) ∧
      (Laid g m n ps) ∧
      (
       ((1 : Int) ≤ n) ∧
       (n ≤ (32 : Int))) ∧
      (v'.snd.snd.fst.length = (48 : Nat) * n.toNat) ∧
      (v'.snd.fst.length = v'.fst) ∧
      (BIn g m ps n v'.fst v'.snd.fst v'.snd.snd.fst v'.snd.snd.snd)) ∧
      (n.toNat - v'.fst < n.toNat - v_72.fst))
     ((k (AV.tup [AV.row (6 : Nat) (0 : Nat) (0 : Nat) v_72.fst, AV.int IntKind.i64 (0 : Int)]) [] [Blk.row (6 : Nat) v_72.snd.fst])))))) := by
 refine br_intro (fun c1 => ?_) (fun c1 => ?_)
 ·
  simp at c1
  exact hk.1 _ (blkE_2 (by omega)) (by decide) (by omega)
 ·
  simp at c1
  intro n1
  intro q1
  intro ⟨l1, u1⟩
  intro n4
  intro q4
  intro n6
  intro q6
  refine br_intro (fun c2 => ?_) (fun c2 => ?_)
  ·
   simp at c2
   exact hk.1 _ (blkE_may (by omega) (mayE_190 (by omega)) (by decide)) (by decide) (by omega)
  ·
   simp at c2
   intro e_8
   intro ys_9
   intro n_10
   intro h3
   intro h4
   intro h5
   intro h6
   intro h7
   refine br_intro (fun c8 => ?_) (fun c8 => ?_)
   ·
    simp at c8
    exact hk.1 _ (bl_e (by omega) (by omega) h3 c8) c8 (by omega)
   ·
    simp at c8
    intro n16
    intro q16
    intro ⟨l16, u16⟩
    intro n19
    intro q19
    first | (rw [wrU64] at q19; rotate_left 1; · omega) | rw [IntKind.wrap_u64] at q19
    intro ⟨l19, u19⟩
    refine ⟨by exact ⟨by assumption, by assumption⟩, ?_⟩
    intro ys_22
    intro q_23
    intro h9
    intro h10
    intro h11
    refine ⟨by first | omega | (dsimp only; omega), ?_⟩
    intro z27
    intro qz27
    intro n29
    intro q29
    intro ⟨l29, u29⟩
    intro n32
    intro q32
    first | (rw [wrU64] at q32; rotate_left 1; · omega) | rw [IntKind.wrap_u64] at q32
    intro ⟨l32, u32⟩
    refine ⟨by exact ⟨by assumption, by assumption⟩, ?_⟩
    intro ys_35
    intro q_36
    intro h12
    intro h13
    intro h14
    refine ⟨by first | omega | (dsimp only; omega), ?_⟩
    intro z40
    intro qz40
    intro n42
    intro q42
    intro ⟨l42, u42⟩
    intro n45
    intro q45
    first | (rw [wrI64] at q45; rotate_left 1; · omega) | rw [IntKind.wrap_i64] at q45
    intro ⟨l45, u45⟩
    refine brd (fun c15 => ?_) (fun c15 => ?_)
    ·
     obtain ⟨i1, i2⟩ := bl_in (m := m) (ps := ps) (by omega) (show n19 = m by omega) h9 h10 h5 h6 qz27
     obtain ⟨j1, j2⟩ := bl_b i1 i2 (show n32 = ((q_23 + n_10 : Nat) : Int) by omega) h12 h13 qz40
     rw [j1] at j2
     exact hk.1 _ (blkE_190 (by omega) (by rw [mayE_w (by omega), ← h3]; omega) (by rw [j2]; omega)) (by decide) (by omega)
    ·
     intro n48
     intro q48
     first | (rw [wrI64] at q48; rotate_left 1; · omega) | rw [IntKind.wrap_i64] at q48
     intro ⟨l48, u48⟩
     intro n51
     intro q51
     intro ⟨l51, u51⟩
     intro n54
     intro q54
     first | (rw [wrI64] at q54; rotate_left 1; · omega) | rw [IntKind.wrap_i64] at q54
     intro ⟨l54, u54⟩
     refine ⟨by first | omega | (dsimp only; omega), ?_⟩
     have h16 : (q_36 + (q_23 + n_10) + n54.toNat) * (1 : Nat) ≤ (140737488355328 : Nat) := by
      omega
     refine ⟨h16, ?_⟩
     intro z57
     intro qz57
     intro n59
     intro q59
     intro ⟨l59, u59⟩
     intro n62
     intro q62
     first | (rw [wrU64] at q62; rotate_left 1; · omega) | rw [IntKind.wrap_u64] at q62
     intro ⟨l62, u62⟩
     refine ⟨by exact ⟨by assumption, by assumption⟩, ?_⟩
     refine ⟨by first | omega | (dsimp only; omega), ?_⟩
     intro ys_65
     intro q_66
     intro e_67
     intro h17
     intro h18
     intro h19
     intro h20
     refine ⟨?_, ?_⟩
     ·
      refine ⟨((0 : Nat), [], List.take (q_36 + (q_23 + n_10) + n54.toNat) (List.drop (0 : Nat) z57), List.take q_66 (List.drop (0 : Nat) ys_65)), ?_⟩
      refine ⟨by first | with_reducible rfl | rfl, ?_⟩
      refine ⟨by first | with_reducible rfl | rfl, ?_⟩
      refine ⟨by first | with_reducible rfl | rfl, ?_⟩
      refine ⟨by first | with_reducible rfl | rfl, ?_⟩
      refine ⟨by first | with_reducible rfl | rfl, ?_⟩
      refine ⟨by show (0 : Int) = (↑(0 : Nat) : Int); omega, ?_⟩
      refine ⟨by first | with_reducible rfl | rfl, ?_⟩
      refine ⟨by show (0 : Nat) ≤ n.toNat; omega, ?_⟩
      have h21 : Laid g m n ps := by
       obtain ⟨i1, i2⟩ := bl_in (m := m) (ps := ps) (by omega) (show n19 = m by omega) h9 h10 h5 h6 qz27
       obtain ⟨j1, j2⟩ := bl_b i1 i2 (show n32 = ((q_23 + n_10 : Nat) : Int) by omega) h12 h13 qz40
       rw [j1] at j2
       have L : Laid g m n ps := bl_q (by omega) (by omega) (by omega) (by rw [j2]; omega)
       exact L
      refine ⟨h21, ?_⟩
      refine ⟨by first | omega | (dsimp only; omega), ?_⟩
      have h22 : (List.take (q_36 + (q_23 + n_10) + n54.toNat) (List.drop (0 : Nat) z57)).length = (48 : Nat) * n.toNat := by
       obtain ⟨i1, i2⟩ := bl_in (m := m) (ps := ps) (by omega) (show n19 = m by omega) h9 h10 h5 h6 qz27
       obtain ⟨j1, j2⟩ := bl_b i1 i2 (show n32 = ((q_23 + n_10 : Nat) : Int) by omega) h12 h13 qz40
       rw [j1] at j2
       have L : Laid g m n ps := bl_q (by omega) (by omega) (by omega) (by rw [j2]; omega)
       rw [← j1] at j2
       rw [bl_p (n := n) j1 j2 (by omega) qz57]
       exact L.in.2
      refine ⟨h22, ?_⟩
      refine ⟨by first | with_reducible rfl | rfl, ?_⟩
      obtain ⟨i1, i2⟩ := bl_in (m := m) (ps := ps) (by omega) (show n19 = m by omega) h9 h10 h5 h6 qz27
      obtain ⟨j1, j2⟩ := bl_b i1 i2 (show n32 = ((q_23 + n_10 : Nat) : Int) by omega) h12 h13 qz40
      rw [j1] at j2
      rw [← j1] at j2
      have e := bl_p (n := n) j1 j2 (by omega) qz57
      refine bin_0 e ?_
      dsimp only
      rw [List.drop_zero, ← h18, List.take_length, h17, show n62 = g by omega]
      unfold putF
      rw [if_pos (putF_8 (by omega))]
      rfl
     intro v_72
     intro h23
     refine brd (fun c24 => ?_) (fun c24 => ?_)
     ·
      intro n74
      intro q74
      first | (rw [wrI64] at q74; rotate_left 1; · omega) | rw [IntKind.wrap_i64] at q74
      intro ⟨l74, u74⟩
      have h25 : (0 : Int) ≤ n74 := by
       omega
      refine ⟨h25, ?_⟩
      refine ⟨by first | omega | (dsimp only; omega), ?_⟩
      refine ⟨by first | omega | (dsimp only; omega), ?_⟩
      have h26 : (48 : Int) ≤ (↑(List.drop n74.toNat v_72.snd.snd.fst).length : Int) := by
       rw [List.length_drop]; omega
      refine ⟨h26, ?_⟩
      refine ⟨?_, ?_⟩
      ·
       have h27 : (2 : Nat) ≤ (List.take (3 : Nat) (List.drop (0 : Nat) [v_72.snd.snd.snd, List.take (Int.toNat (48 : Int)) (List.drop n74.toNat v_72.snd.snd.fst), v_72.snd.snd.snd])).length := by
        simp
       refine ⟨h27, ?_⟩
       have h28 : (List.take (3 : Nat) (List.drop (0 : Nat) [v_72.snd.snd.snd, List.take (Int.toNat (48 : Int)) (List.drop n74.toNat v_72.snd.snd.fst), v_72.snd.snd.snd])).length ≤ (1000 : Nat) := by
        simp
       refine ⟨h28, ?_⟩
       rw [bl_flen (N := n.toNat) (i := v_72.fst) h23.2.2.2.2.2.g h23.2.2.2.1 (by omega) (by omega)]; omega
      intro ys_77
      intro n_78
      intro h29
      intro h30
      refine ⟨by first | omega | (dsimp only; omega), ?_⟩
      intro z81
      intro qz81
      intro n83
      intro q83
      first | (rw [wrI64] at q83; rotate_left 1; · omega) | rw [IntKind.wrap_i64] at q83
      intro ⟨l83, u83⟩
      refine ⟨(v_72.fst + (1 : Nat), z81, v_72.snd.snd.fst, v_72.snd.snd.snd), ?_⟩
      refine ⟨by first | with_reducible rfl | rfl, ?_⟩
      refine ⟨by first | with_reducible rfl | rfl, ?_⟩
      refine ⟨by first | with_reducible rfl | rfl, ?_⟩
      refine ⟨by first | with_reducible rfl | rfl, ?_⟩
      refine ⟨by first | with_reducible rfl | rfl, ?_⟩
      refine ⟨by show n83 = (↑(v_72.fst + (1 : Nat)) : Int); omega, ?_⟩
      refine ⟨by first | with_reducible rfl | rfl, ?_⟩
      refine ⟨?_, ?_⟩
      ·
       refine ⟨by show v_72.fst + (1 : Nat) ≤ n.toNat; omega, ?_⟩
       have h31 : Laid g m n ps := by
        exact h23.2.1
       refine ⟨h31, ?_⟩
       refine ⟨by first | omega | (dsimp only; omega), ?_⟩
       refine ⟨by show v_72.snd.snd.fst.length = (48 : Nat) * n.toNat; omega, ?_⟩
       have h32 : z81.length = v_72.fst + (1 : Nat) := by
        exact (bin_step h23.2.2.2.2.2 h23.2.2.2.2.1 (h29.trans (bl_flat h23.2.2.2.2.2.g (by omega))) h30 qz81).2
       refine ⟨h32, ?_⟩
       exact (bin_step h23.2.2.2.2.2 h23.2.2.2.2.1 (h29.trans (bl_flat h23.2.2.2.2.2.g (by omega))) h30 qz81).1
      exact by show n.toNat - (v_72.fst + (1 : Nat)) < n.toNat - v_72.fst; omega
     ·
      have e : v_72.fst = n.toNat := by omega
      exact hk.2 h23.2.1.e _ _ (bin_end h23.2.2.2.2.2 h23.2.1 e) h23.2.2.2.2.1

theorem blocks_ok : Holds Try.prog 11 blocksS := by
  refine fn_sound (env := mkEnv F3) (tab_ok F3_ok) Try.func11 Try.call11 fun args k h => ?_
  match args, h with
  | [.agg [.int .i64 g, .int .u8 m, .sl 10 ps], .int .i64 n], h => exact ⟨by kernel_rfl, blocksLoops g m ps n, fun _ _ => none, .cast (by kernel_rfl) (blocks_vc g m ps n h.1 k h.2)⟩
theorem blocksT_ok : Holds Try.prog 11 blocksT := blocks_up blocks_ok
set_option maxHeartbeats 2000000 in
theorem number_vc (b : List UInt8) (k : AV → List (Option Blk) → List Blk → Prop) (hk : ∀ (a : Int), a = gV b → (0 : Int) ≤ a ∧ a ≤ (18446744073709551615 : Int) → k (AV.int IntKind.u64 a) [] []) :
 ∀ (a_1 : Int),
 ∀ (e_2 : Int),
 (a_1 = getV b) →
 (e_2 = getE b) →
 ((0 : Int) ≤ a_1 ∧ a_1 ≤ (18446744073709551615 : Int)) →
 (e_2 = (0 : Int) ∨ e_2 = (8 : Int)) →
 (k (AV.int IntKind.u64 a_1) [] []) := by
 intro a_1
 intro e_2
 intro h1
 intro h2
 intro ⟨a3, b3⟩
 intro h4
 exact hk _ h1 ⟨a3, b3⟩

theorem number_ok : Holds Try.prog 69 numberS := by
  refine fn_sound (env := mkEnv F3) (tab_ok F3_ok) Try.func69 Try.call69 fun args k h => ?_
  match args, h with
  | [.sl 0 b], h => exact ⟨by kernel_rfl, fun _ _ => none, fun _ _ => none, .cast (by kernel_rfl) (number_vc b k h)⟩
end Go.Proofs.Ytcdflgfhkohldaa

