import Derived.Test.YtcdflgfhkohldaaStN
namespace Go.Proofs.Ytcdflgfhkohldaa
open Go Go.Eng Go.Rw Go.Lk Go.Proofs
open Go.Bk hiding take_step drop_step set_mid
open Go.St hiding take_step
set_option linter.unusedVariables false
set_option maxHeartbeats 2000000 in
theorem parts_vc (b : List UInt8) (hb : b.length ≤ 1000000) (k : AV → List (Option Blk) → List Blk → Prop) (hk : (∀ (l : List Plan) (n : Nat), St.PR b (0 : Int) l → l.length = n → k (.tup [.row 10 0 0 n, .int .i64 0]) [] [.row 10 l]) ∧ (St.PR b (8 : Int) [] → k (.tup [.nilsl, .int .i64 8]) [] [])) : (b.length ≤ 1000000) ∧ ∀ (l_1 : List Plan), ∀ (q_2 : Nat), ∀ (r_3 : List UInt8), ∀ (bd_4 : Bool), (PIn b (oneV (8 : Int) b).toNat bd_4 r_3 l_1) → (l_1.length = q_2) → (q_2 ≤ 8) → (r_3.length ≤ b.length) → ∀ (e_9 : Int), ∀ (ys_10 : List UInt8), ∀ (n_11 : Nat), (e_9 = wholeE (List.take q_2 (List.drop 0 l_1))) → (e_9 = 0 ∨ e_9 = 4 ∨ e_9 = 170) → (ys_10 = wholeO (List.take q_2 (List.drop 0 l_1))) → (ys_10.length = n_11) → (n_11 ≤ 1000) → br (bif bd_4 then true else e_9 != 0) ((true = true) ∧ (k (.tup [.nilsl, .int .i64 8]) [] [])) (∀ (r_17 : Bool), (r_17 = true ↔ List.take n_11 (List.drop 0 ys_10) = b) → br (bif false then true else !r_17) ((k (.tup [.nilsl, .int .i64 8]) [] [])) ((k (.tup [.row 10 0 0 q_2, .int .i64 0]) [] [.row 10 l_1]))) := by
 refine ⟨by assumption, ?_⟩
 intro l_1 q_2 r_3 bd_4 h1 h2 h3 h4 e_9 ys_10 n_11 h5 h6 h7 h8 h9
 refine br_intro (fun c10 => ?_) (fun c10 => ?_)
 ·
  simp at c10
  refine ⟨by with_reducible rfl, ?_⟩
  rw [ks_all' h2] at h5 h7
  cases bd_4 with
  | true => exact hk.2 (pr_bad (h1.no rfl))
  | false => exact hk.2 (pr_no (pin_end h1 rfl) (by rintro ⟨c, -⟩; simp at c10; omega))
 simp at c10
 intro r_17 h11
 refine br_intro (fun c12 => ?_) (fun c12 => ?_)
 ·
  simp at c12
  rw [ks_all' h2] at h5 h7
  rw [List.drop_zero, ← h8, List.take_length] at h11
  have hb := c10.1
  subst hb
  exact hk.2 (pr_no (pin_end h1 rfl) (by rintro ⟨-, c⟩; rw [h11.2 (h7.trans c)] at c12; cases c12))
 simp at c12
 rw [ks_all' h2] at h5 h7
 rw [List.drop_zero, ← h8, List.take_length] at h11
 exact hk.1 _ _ (pr_yes (by rw [← h5]; exact c10.2) (by rw [← h7]; exact h11.1 c12)) h2
theorem parts_ok : Holds Try.prog 76 partsS := by
  refine fn_sound (env := mkEnv F2) (tab_ok F2_ok) Try.func76 Try.call76 fun args k h => ?_
  match args, h with
  | [.sl 0 b], h => exact ⟨by kernel_rfl, fun _ _ => none, fun _ _ => none, .cast (by kernel_rfl) (parts_vc b h.1 k h.2)⟩
theorem partsT_ok : Holds Try.prog 76 partsT := parts_up parts_ok
theorem F3N_ok (yb : Nat) : TabOkN yb Try.prog F3 := F3_ok.n yb
set_option maxHeartbeats 2000000 in
theorem blocks_vc (yb : Nat) (g : Int) (m : Int) (ps : List Plan) (n : Int) (hg : (-9223372036854775808 ≤ g ∧ g ≤ 9223372036854775807) ∧ 0 ≤ m ∧ m ≤ 255) (k : AV → List (Option Blk) → List Blk → Prop) (hk : (∀ (e : Int), e = blkE g m ps n → e ≠ (0 : Int) → 0 ≤ e ∧ e ≤ 190 → k (.tup [.nilsl, .int .i64 e]) [] []) ∧ (blkE g m ps n = 0 → ∀ (zs : List YB) (q : Nat), List.map YB.data zs = blkO g m ps n → YAll yb zs → zs.length = q → k (.tup [.row 14 0 0 q, .int .i64 0]) [] [.row 14 zs])) : br (bif decide (n < 1) then true else decide (n > 32)) ((k (.tup [.nilsl, .int .i64 2]) [] [])) (∀ (n1 : Int), (n1 = g) → (inK .i64 n1) → ∀ (n4 : Int), (n4 = g) → ∀ (n6 : Int), (n6 = m) → br (bif bif decide (n1 < 1) then true else decide (n4 ≥ 4611686018427387904) then true else decide (n6 > 3)) ((k (.tup [.nilsl, .int .i64 190]) [] [])) (∀ (e_8 : Int), ∀ (ys_9 : List UInt8), ∀ (n_10 : Nat), (e_8 = wholeE ps) → (e_8 = 0 ∨ e_8 = 4 ∨ e_8 = 170) → (ys_9 = wholeO ps) → (ys_9.length = n_10) → (n_10 ≤ 1000) → br (e_8 != 0) ((k (.tup [.nilsl, .int .i64 e_8]) [] [])) (∀ (n16 : Int), (n16 = m) → (inK .u8 n16) → ∀ (n19 : Int), (n19 = IntKind.u64.wrap n16) → (inK .u64 n19) → ((0 ≤ n19) ∧ (n19 ≤ 18446744073709551615)) ∧ ∀ (ys_22 : List UInt8), ∀ (q_23 : Nat), (ys_22 = smallL n19.toNat) → (ys_22.length = q_23) → (q_23 ≤ 10) → ((q_23 + n_10) * 1 ≤ 140737488355328) ∧ ∀ (z27 : List UInt8), (z27 = List.take q_23 ys_22 ++ List.take n_10 (List.drop 0 ys_9)) → ∀ (n29 : Int), (n29 = (↑(q_23 + n_10) : Int)) → (inK .i64 n29) → ∀ (n32 : Int), (n32 = IntKind.u64.wrap n29) → (inK .u64 n32) → ((0 ≤ n32) ∧ (n32 ≤ 18446744073709551615)) ∧ ∀ (ys_35 : List UInt8), ∀ (q_36 : Nat), (ys_35 = smallL n32.toNat) → (ys_35.length = q_36) → (q_36 ≤ 10) → ((q_36 + (q_23 + n_10)) * 1 ≤ 140737488355328) ∧ ∀ (z40 : List UInt8), (z40 = List.take q_36 ys_35 ++ List.take (q_23 + n_10) (List.drop 0 z27)) → ∀ (n42 : Int), (n42 = (↑(q_36 + (q_23 + n_10)) : Int)) → (inK .i64 n42) → ∀ (n45 : Int), (n45 = IntKind.i64.wrap ((48 : Int) * n)) → (inK .i64 n45) → br (decide (n42 > n45)) ((k (.tup [.nilsl, .int .i64 190]) [] [])) (∀ (n48 : Int), (n48 = IntKind.i64.wrap ((48 : Int) * n)) → (inK .i64 n48) → ∀ (n51 : Int), (n51 = (↑(q_36 + (q_23 + n_10)) : Int)) → (inK .i64 n51) → ∀ (n54 : Int), (n54 = IntKind.i64.wrap (n48 - n51)) → (inK .i64 n54) → (0 ≤ n54) ∧ ((q_36 + (q_23 + n_10) + n54.toNat) * 1 ≤ 140737488355328) ∧ ∀ (z57 : List UInt8), (z57 = List.take (q_36 + (q_23 + n_10)) z40 ++ List.replicate n54.toNat (UInt8.ofNat (Int.toNat (0 : Int)))) → ∀ (n59 : Int), (n59 = g) → (inK .i64 n59) → ∀ (n62 : Int), (n62 = IntKind.u64.wrap n59) → (inK .u64 n62) → ((0 ≤ n62) ∧ (n62 ≤ 18446744073709551615)) ∧ (((-9223372036854775808 : Int) ≤ (8 : Int)) ∧ ((8 : Int) ≤ (9223372036854775807 : Int))) ∧ ∀ (ys_65 : List UInt8), ∀ (q_66 : Nat), ∀ (e_67 : Int), (ys_65 = putF n62 (8 : Int)) → (ys_65.length = q_66) → (e_67 = putE n62 (8 : Int)) → (e_67 = 0 ∨ e_67 = 2) → (∃ (v : Nat × List YB × List UInt8 × List UInt8), (List.take (q_36 + (q_23 + n_10) + n54.toNat) (List.drop 0 z57) = v.snd.snd.fst) ∧ (List.take q_66 (List.drop 0 ys_65) = v.snd.snd.snd) ∧ (0 = 0) ∧ (0 = v.fst) ∧ (n = n) ∧ ((0 : Int) = (↑v.fst : Int)) ∧ ([] = v.snd.fst) ∧ (v.fst ≤ n.toNat) ∧ (Laid g m n ps) ∧ ((1 ≤ n) ∧ (n ≤ 32)) ∧ (v.snd.snd.fst.length = 48 * n.toNat) ∧ (v.snd.fst.length = v.fst) ∧ (BIn g m ps n v.fst (List.map YB.data v.snd.fst) v.snd.snd.fst v.snd.snd.snd) ∧ (YAll yb v.snd.fst)) ∧ ∀ (v_72 : Nat × List YB × List UInt8 × List UInt8), (v_72.fst ≤ n.toNat ∧ Laid g m n ps ∧ (1 ≤ n ∧ n ≤ 32) ∧ v_72.snd.snd.fst.length = 48 * n.toNat ∧ v_72.snd.fst.length = v_72.fst ∧ BIn g m ps n v_72.fst (List.map YB.data v_72.snd.fst) v_72.snd.snd.fst v_72.snd.snd.snd ∧ YAll yb v_72.snd.fst) → br (decide ((↑v_72.fst : Int) < n)) (∀ (n74 : Int), (n74 = IntKind.i64.wrap ((↑v_72.fst : Int) * (48 : Int))) → (inK .i64 n74) → (0 ≤ n74) ∧ (n74 ≤ (↑v_72.snd.snd.fst.length : Int)) ∧ ((0 : Int) ≤ (48 : Int)) ∧ ((48 : Int) ≤ (↑(List.drop n74.toNat v_72.snd.snd.fst).length : Int)) ∧ ((2 ≤ (List.take 3 (List.drop 0 [v_72.snd.snd.snd, List.take (Int.toNat (48 : Int)) (List.drop n74.toNat v_72.snd.snd.fst), v_72.snd.snd.snd])).length) ∧ ((List.take 3 (List.drop 0 [v_72.snd.snd.snd, List.take (Int.toNat (48 : Int)) (List.drop n74.toNat v_72.snd.snd.fst), v_72.snd.snd.snd])).length ≤ 1000) ∧ ((List.take 3 (List.drop 0 [v_72.snd.snd.snd, List.take (Int.toNat (48 : Int)) (List.drop n74.toNat v_72.snd.snd.fst), v_72.snd.snd.snd])).flatten.length ≤ 100000)) ∧ ∀ (ys_77 : List UInt8), ∀ (n_78 : Nat), (ys_77 = (List.take 3 (List.drop 0 [v_72.snd.snd.snd, List.take (Int.toNat (48 : Int)) (List.drop n74.toNat v_72.snd.snd.fst), v_72.snd.snd.snd])).flatten) → (ys_77.length = n_78) → ((v_72.fst + 1) * 24 ≤ 140737488355328) ∧ ∀ (z81 : List YB), (z81 = List.take v_72.fst v_72.snd.fst ++ List.take 1 (List.drop 0 [{ nb := yb, data := List.take n_78 (List.drop 0 ys_77) : YB }])) → ∀ (n83 : Int), (n83 = IntKind.i64.wrap ((↑v_72.fst : Int) + (1 : Int))) → (inK .i64 n83) → ∃ (v' : Nat × List YB × List UInt8 × List UInt8), (v_72.snd.snd.fst = v'.snd.snd.fst) ∧ (v_72.snd.snd.snd = v'.snd.snd.snd) ∧ (0 = 0) ∧ (v_72.fst + 1 = v'.fst) ∧ (n = n) ∧ (n83 = (↑v'.fst : Int)) ∧ (z81 = v'.snd.fst) ∧ ((v'.fst ≤ n.toNat) ∧ (Laid g m n ps) ∧ ((1 ≤ n) ∧ (n ≤ 32)) ∧ (v'.snd.snd.fst.length = 48 * n.toNat) ∧ (v'.snd.fst.length = v'.fst) ∧ (BIn g m ps n v'.fst (List.map YB.data v'.snd.fst) v'.snd.snd.fst v'.snd.snd.snd) ∧ (YAll yb v'.snd.fst)) ∧ (n.toNat - v'.fst < n.toNat - v_72.fst)) ((k (.tup [.row 14 0 0 v_72.fst, .int .i64 0]) [] [.row 14 v_72.snd.fst])))))) := by
 refine br_intro (fun c1 => ?_) (fun c1 => ?_)
 ·
  simp at c1
  exact hk.1 _ (blkE_2 (by omega)) (by decide) (by omega)
 simp at c1
 intro n1 q1 ⟨l1, u1⟩ n4 q4 n6 q6
 refine br_intro (fun c2 => ?_) (fun c2 => ?_)
 ·
  simp at c2
  exact hk.1 _ (blkE_may (by omega) (mayE_190 (by omega)) (by decide)) (by decide) (by omega)
 simp at c2
 intro e_8 ys_9 n_10 h3 h4 h5 h6 h7
 refine br_intro (fun c8 => ?_) (fun c8 => ?_)
 ·
  simp at c8
  exact hk.1 _ (bl_e (by omega) (by omega) h3 c8) c8 (by omega)
 simp at c8
 intro n16 q16 ⟨l16, u16⟩ n19 q19
 first | (rw [wrU64] at q19; rotate_left 1; · omega) | rw [IntKind.wrap_u64] at q19
 intro ⟨l19, u19⟩
 refine ⟨by exact ⟨by assumption, by assumption⟩, ?_⟩
 intro ys_22 q_23 h9 h10 h11
 refine ⟨by first | omega | (dsimp only; omega), ?_⟩
 intro z27 qz27 n29 q29 ⟨l29, u29⟩ n32 q32
 first | (rw [wrU64] at q32; rotate_left 1; · omega) | rw [IntKind.wrap_u64] at q32
 intro ⟨l32, u32⟩
 refine ⟨by exact ⟨by assumption, by assumption⟩, ?_⟩
 intro ys_35 q_36 h12 h13 h14
 refine ⟨by first | omega | (dsimp only; omega), ?_⟩
 intro z40 qz40 n42 q42 ⟨l42, u42⟩ n45 q45
 first | (rw [wrI64] at q45; rotate_left 1; · omega) | rw [IntKind.wrap_i64] at q45
 intro ⟨l45, u45⟩
 refine brd (fun c15 => ?_) (fun c15 => ?_)
 ·
  obtain ⟨i1, i2⟩ := bl_in (m := m) (ps := ps) (by omega) (show n19 = m by omega) h9 h10 h5 h6 qz27
  obtain ⟨j1, j2⟩ := bl_b i1 i2 (show n32 = ((q_23 + n_10 : Nat) : Int) by omega) h12 h13 qz40
  rw [j1] at j2
  exact hk.1 _ (blkE_190 (by omega) (by rw [mayE_w (by omega), ← h3]; omega) (by rw [j2]; omega)) (by decide) (by omega)
 intro n48 q48
 first | (rw [wrI64] at q48; rotate_left 1; · omega) | rw [IntKind.wrap_i64] at q48
 intro ⟨l48, u48⟩ n51 q51 ⟨l51, u51⟩ n54 q54
 first | (rw [wrI64] at q54; rotate_left 1; · omega) | rw [IntKind.wrap_i64] at q54
 intro ⟨l54, u54⟩
 refine ⟨by first | omega | (dsimp only; omega), ?_⟩
 have h16 : (q_36 + (q_23 + n_10) + n54.toNat) * (1 : Nat) ≤ (140737488355328 : Nat) := by
  omega
 refine ⟨h16, ?_⟩
 intro z57 qz57 n59 q59 ⟨l59, u59⟩ n62 q62
 first | (rw [wrU64] at q62; rotate_left 1; · omega) | rw [IntKind.wrap_u64] at q62
 intro ⟨l62, u62⟩
 refine ⟨by exact ⟨by assumption, by assumption⟩, by first | omega | (dsimp only; omega), ?_⟩
 intro ys_65 q_66 e_67 h17 h18 h19 h20
 refine ⟨?_, ?_⟩
 ·
  refine ⟨((0 : Nat), [], List.take (q_36 + (q_23 + n_10) + n54.toNat) (List.drop (0 : Nat) z57), List.take q_66 (List.drop (0 : Nat) ys_65)), rfl, rfl, rfl, rfl, rfl, by show (0 : Int) = (↑(0 : Nat) : Int); omega, rfl, by show (0 : Nat) ≤ n.toNat; omega, ?_⟩
  have h21 : Laid g m n ps := by
   obtain ⟨i1, i2⟩ := bl_in (m := m) (ps := ps) (by omega) (show n19 = m by omega) h9 h10 h5 h6 qz27
   obtain ⟨j1, j2⟩ := bl_b i1 i2 (show n32 = ((q_23 + n_10 : Nat) : Int) by omega) h12 h13 qz40
   rw [j1] at j2
   have L : Laid g m n ps := bl_q (by omega) (by omega) (by omega) (by rw [j2]; omega)
   exact L
  refine ⟨h21, by first | omega | (dsimp only; omega), ?_⟩
  have h22 : (List.take (q_36 + (q_23 + n_10) + n54.toNat) (List.drop (0 : Nat) z57)).length = (48 : Nat) * n.toNat := by
   obtain ⟨i1, i2⟩ := bl_in (m := m) (ps := ps) (by omega) (show n19 = m by omega) h9 h10 h5 h6 qz27
   obtain ⟨j1, j2⟩ := bl_b i1 i2 (show n32 = ((q_23 + n_10 : Nat) : Int) by omega) h12 h13 qz40
   rw [j1] at j2
   have L : Laid g m n ps := bl_q (by omega) (by omega) (by omega) (by rw [j2]; omega)
   rw [← j1] at j2
   rw [bl_p (n := n) j1 j2 (by omega) qz57]
   exact L.in.2
  refine ⟨h22, rfl, ?_⟩
  have h23 : BIn g m ps n (0 : Nat) (List.map YB.data []) (List.take (q_36 + (q_23 + n_10) + n54.toNat) (List.drop (0 : Nat) z57)) (List.take q_66 (List.drop (0 : Nat) ys_65)) := by
   obtain ⟨i1, i2⟩ := bl_in (m := m) (ps := ps) (by omega) (show n19 = m by omega) h9 h10 h5 h6 qz27
   obtain ⟨j1, j2⟩ := bl_b i1 i2 (show n32 = ((q_23 + n_10 : Nat) : Int) by omega) h12 h13 qz40
   rw [j1] at j2
   rw [← j1] at j2
   have e := bl_p (n := n) j1 j2 (by omega) qz57
   refine bin_0 e ?_
   try dsimp only
   rw [List.drop_zero, ← h18, List.take_length, h17, show n62 = g by omega]
   unfold putF
   rw [if_pos (putF_8 (by omega))]
   rfl
  refine ⟨h23, ?_⟩
  exact ⟨fun z hz => by cases hz⟩
 intro v_72 h24
 refine brd (fun c25 => ?_) (fun c25 => ?_)
 ·
  intro n74 q74
  first | (rw [wrI64] at q74; rotate_left 1; · omega) | rw [IntKind.wrap_i64] at q74
  intro ⟨l74, u74⟩
  have h26 : (0 : Int) ≤ n74 := by
   omega
  refine ⟨h26, by first | omega | (dsimp only; omega), by first | omega | (dsimp only; omega), ?_⟩
  have h27 : (48 : Int) ≤ (↑(List.drop n74.toNat v_72.snd.snd.fst).length : Int) := by
   rw [List.length_drop]; omega
  refine ⟨h27, ?_⟩
  refine ⟨?_, ?_⟩
  ·
   have h28 : (2 : Nat) ≤ (List.take (3 : Nat) (List.drop (0 : Nat) [v_72.snd.snd.snd, List.take (Int.toNat (48 : Int)) (List.drop n74.toNat v_72.snd.snd.fst), v_72.snd.snd.snd])).length := by
    simp
   refine ⟨h28, ?_⟩
   have h29 : (List.take (3 : Nat) (List.drop (0 : Nat) [v_72.snd.snd.snd, List.take (Int.toNat (48 : Int)) (List.drop n74.toNat v_72.snd.snd.fst), v_72.snd.snd.snd])).length ≤ (1000 : Nat) := by
    simp
   refine ⟨h29, ?_⟩
   rw [bl_flen (N := n.toNat) (i := v_72.fst) h24.2.2.2.2.2.1.g h24.2.2.2.1 (by omega) (by omega)]; omega
  intro ys_77 n_78 h30 h31
  refine ⟨by first | omega | (dsimp only; omega), ?_⟩
  intro z81 qz81 n83 q83
  first | (rw [wrI64] at q83; rotate_left 1; · omega) | rw [IntKind.wrap_i64] at q83
  intro ⟨l83, u83⟩
  refine ⟨(v_72.fst + (1 : Nat), z81, v_72.snd.snd.fst, v_72.snd.snd.snd), rfl, rfl, rfl, rfl, rfl, by show n83 = (↑(v_72.fst + (1 : Nat)) : Int); omega, rfl, ?_⟩
  refine ⟨?_, ?_⟩
  ·
   refine ⟨by show v_72.fst + (1 : Nat) ≤ n.toNat; omega, ?_⟩
   have h32 : Laid g m n ps := by
    exact h24.2.1
   refine ⟨h32, by first | omega | (dsimp only; omega), by show v_72.snd.snd.fst.length = (48 : Nat) * n.toNat; omega, ?_⟩
   have h33 : z81.length = v_72.fst + (1 : Nat) := by
    have Q := bin_step h24.2.2.2.2.2.1 (by rw [List.length_map]; exact h24.2.2.2.2.1) (h30.trans (bl_flat h24.2.2.2.2.2.1.g (by omega))) h31 (YAll.dat qz81)
    have := Q.2
    rw [List.length_map] at this
    exact this
   refine ⟨h33, ?_⟩
   have h34 : BIn g m ps n (v_72.fst + (1 : Nat)) (List.map YB.data z81) v_72.snd.snd.fst v_72.snd.snd.snd := by
    have Q := bin_step h24.2.2.2.2.2.1 (by rw [List.length_map]; exact h24.2.2.2.2.1) (h30.trans (bl_flat h24.2.2.2.2.2.1.g (by omega))) h31 (YAll.dat qz81)
    exact Q.1
   refine ⟨h34, ?_⟩
   exact h24.2.2.2.2.2.2.app qz81
  exact by show n.toNat - (v_72.fst + (1 : Nat)) < n.toNat - v_72.fst; omega
 have e : v_72.fst = n.toNat := by omega
 exact hk.2 h24.2.1.e _ _ (bin_end h24.2.2.2.2.2.1 h24.2.1 e) h24.2.2.2.2.2.2 h24.2.2.2.2.1
theorem blocksY_ok (yb : Nat) : HoldsN yb Try.prog 11 (blocksY yb) := by
  refine fn_soundY (env := { mkEnvY yb F3 with mode := md [(19008, 4), (19010, 3)] }) (tabN_ok (F3N_ok yb)) Try.func11 Try.call11 fun args k h => ?_
  match args, h with
  | [.agg [.int .i64 g, .int .u8 m, .sl 10 ps], .int .i64 n], h => exact ⟨by kernel_rfl, blocksLoops yb g m ps n, fun _ _ => none, .cast (by kernel_rfl) (blocks_vc yb g m ps n h.1 k h.2)⟩
theorem blocksT_ok : Holds Try.prog 11 blocksT := blocks_up ((blocksY_ok 0).holds rfl)
set_option maxHeartbeats 2000000 in
theorem number_vc (b : List UInt8) (k : AV → List (Option Blk) → List Blk → Prop) (hk : ∀ (a : Int), a = gV b → 0 ≤ a ∧ a ≤ 18446744073709551615 → k (.int .u64 a) [] []) : ∀ (a_1 : Int), ∀ (e_2 : Int), (a_1 = getV b) → (e_2 = getE b) → (inK .u64 a_1) → (e_2 = 0 ∨ e_2 = 8) → (k (.int .u64 a_1) [] []) := by
 intro a_1 e_2 h1 h2 ⟨a3, b3⟩ h4
 exact hk _ h1 ⟨a3, b3⟩
theorem number_ok : Holds Try.prog 69 numberS := by
  refine fn_sound (env := mkEnv F3) (tab_ok F3_ok) Try.func69 Try.call69 fun args k h => ?_
  match args, h with
  | [.sl 0 b], h => exact ⟨by kernel_rfl, fun _ _ => none, fun _ _ => none, .cast (by kernel_rfl) (number_vc b k h)⟩
end Go.Proofs.Ytcdflgfhkohldaa
