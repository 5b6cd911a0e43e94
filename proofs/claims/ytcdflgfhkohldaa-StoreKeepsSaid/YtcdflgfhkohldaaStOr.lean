import Derived.Test.YtcdflgfhkohldaaStN
import Derived.Test.YtcdflgfhkohldaaStLr
import Derived.Test.YtcdflgfhkohldaaStGr
namespace Go.Proofs.Ytcdflgfhkohldaa
open Go Go.Eng Go.Rw Go.Lk Go.Proofs
open Go.Bk hiding take_step drop_step set_mid
open Go.St hiding take_step
set_option linter.unusedVariables false
theorem F2r_ok : TabOk Try.prog F2r := ⟨rplans_ok, rwholeU_ok, trivial⟩
theorem F3r_ok : TabOk Try.prog F3r := ⟨rsmall_ok, rputU_ok, rwholeU_ok, rget_ok, rcheck_ok, rmany_ok, rblock_ok, trivial⟩
set_option maxHeartbeats 2000000 in
theorem rparts_vc (b : List UInt8) (hb : b.length ≤ 1000000) (k : AV → List (Option Blk) → List Blk → Prop) (hk : (∀ (l : List Plan) (n : Nat), St.PR b (0 : Int) l → l.length = n → k (.tup [.row 10 0 0 n, .int .i64 0]) [] [.row 10 l]) ∧ (St.PR b (8 : Int) [] → k (.tup [.nilsl, .int .i64 8]) [] [])) : (b.length ≤ 1000000) ∧ ∀ (l_1 : List Plan), ∀ (q_2 : Nat), ∀ (r_3 : List UInt8), ∀ (bd_4 : Bool), ((bd_4 = false) → (PIn b (oneV (8 : Int) b).toNat bd_4 r_3 l_1)) → ((bd_4 = true) → (rdP b = none)) → (l_1.length = q_2) → (q_2 ≤ 8) → (r_3.length ≤ b.length) → br (bd_4) ((k (.tup [.nilsl, .int .i64 8]) [] [])) (∀ (e_10 : Int), ∀ (ys_11 : List UInt8), ∀ (n_12 : Nat), (e_10 = wholeE (List.take q_2 (List.drop 0 l_1))) → (e_10 = 0 ∨ e_10 = 4 ∨ e_10 = 170) → (ys_11 = wholeO (List.take q_2 (List.drop 0 l_1))) → (ys_11.length = n_12) → (n_12 ≤ 1000) → br (bif e_10 != 0 then true else !{ data := (List.take n_12 (List.drop 0 ys_11)).toArray : ByteArray }.data.toList == { data := b.toArray : ByteArray }.data.toList) ((k (.tup [.nilsl, .int .i64 8]) [] [])) ((k (.tup [.row 10 0 0 q_2, .int .i64 0]) [] [.row 10 l_1]))) := by
 refine ⟨by assumption, ?_⟩
 intro l_1 q_2 r_3 bd_4 h1 h2 h3 h4 h5
 refine br_intro (fun c6 => ?_) (fun c6 => ?_)
 ·
  exact hk.2 (pr_bad (h2 (by assumption)))
 intro e_10 ys_11 n_12 h7 h8 h9 h10 h11
 refine br_intro (fun c12 => ?_) (fun c12 => ?_)
 ·
  simp at c12
  rw [ks_all' h3] at h7 h9
  rw [← h10, List.take_length] at c12
  cases bd_4 with
  | true => exact hk.2 (pr_bad (h2 rfl))
  | false => exact hk.2 (pr_no (pin_end (h1 rfl) rfl) (by rintro ⟨c, c'⟩; rcases c12 with x | x; exact x (by omega); exact x (h9.trans c')))
 simp at c12
 rw [ks_all' h3] at h7 h9
 rw [← h10, List.take_length] at c12
 exact hk.1 _ _ (pr_yes (by rw [← h7]; exact c12.1) (by rw [← h9]; exact c12.2)) h3
theorem rparts_ok : Holds Try.prog 73 partsS := by
  refine fn_sound (env := mkEnv F2r) (tab_ok F2r_ok) Try.func73 Try.call73 fun args k h => ?_
  match args, h with
  | [.sl 0 b], h => exact ⟨by kernel_rfl, fun _ _ => none, fun _ _ => none, .cast (by kernel_rfl) (rparts_vc b h.1 k h.2)⟩
theorem rpartsT_ok : Holds Try.prog 73 partsT := parts_up rparts_ok
set_option maxHeartbeats 2000000 in
theorem may_vc (g : Int) (m : Int) (ps : List Plan) (hm : 0 ≤ m ∧ m ≤ 255) (k : AV → List (Option Blk) → List Blk → Prop) (hk : ∀ (e : Int), e = mayE g m ps → e = 0 ∨ e = 4 ∨ e = 170 ∨ e = 190 → k (.int .i64 e) [] []) : ∀ (n1 : Int), (n1 = g) → (inK .i64 n1) → ∀ (n4 : Int), (n4 = g) → ∀ (n6 : Int), (n6 = m) → br (bif bif decide (n1 < 1) then true else decide (n4 ≥ 4611686018427387904) then true else decide (n6 > 3)) ((k (.int .i64 190) [] [])) (∀ (e_8 : Int), ∀ (ys_9 : List UInt8), ∀ (n_10 : Nat), (e_8 = wholeE ps) → (e_8 = 0 ∨ e_8 = 4 ∨ e_8 = 170) → (ys_9 = wholeO ps) → (ys_9.length = n_10) → (n_10 ≤ 1000) → (k (.int .i64 e_8) [] [])) := by
 intro n1 q1 ⟨l1, u1⟩ n4 q4 n6 q6
 refine br_intro (fun c1 => ?_) (fun c1 => ?_)
 ·
  simp at c1
  exact hk _ (mayE_190 (by omega)) (by omega)
 simp at c1
 intro e_8 ys_9 n_10 h2 h3 h4 h5 h6
 exact hk _ (by rw [mayE_w (by omega)]; exact h2) (by omega)
theorem may_ok : Holds Try.prog 37 mayS := by
  refine fn_sound (env := mkEnv F3r) (tab_ok F3r_ok) Try.func37 Try.call37 fun args k h => ?_
  match args, h with
  | [.agg [.int .i64 g, .int .u8 m, .sl 10 ps]], h => exact ⟨by kernel_rfl, fun _ _ => none, fun _ _ => none, .cast (by kernel_rfl) (may_vc g m ps h.1 k h.2)⟩
set_option maxHeartbeats 2000000 in
theorem ends_vc (b : List UInt8) (hb : b.length = 64) (k : AV → List (Option Blk) → List Blk → Prop) (hk : ∀ (x y : Int), x = gV (List.take 8 b) → y = gV (List.drop 56 b) → 0 ≤ x ∧ x ≤ 18446744073709551615 → 0 ≤ y ∧ y ≤ 18446744073709551615 → k (.tup [.int .u64 x, .int .u64 y]) [] []) : ((0 : Int) ≤ (8 : Int)) ∧ ((8 : Int) ≤ (↑b.length : Int)) ∧ ∀ (a_1 : Int), ∀ (e_2 : Int), (a_1 = getV (List.take (Int.toNat (8 : Int)) b)) → (e_2 = getE (List.take (Int.toNat (8 : Int)) b)) → (inK .u64 a_1) → (e_2 = 0 ∨ e_2 = 8) → ((0 : Int) ≤ (56 : Int)) ∧ ((56 : Int) ≤ (↑b.length : Int)) ∧ ∀ (a_7 : Int), ∀ (e_8 : Int), (a_7 = getV (List.drop (Int.toNat (56 : Int)) b)) → (e_8 = getE (List.drop (Int.toNat (56 : Int)) b)) → (inK .u64 a_7) → (e_8 = 0 ∨ e_8 = 8) → (k (.tup [.int .u64 a_1, .int .u64 a_7]) [] []) := by
 refine ⟨by first | omega | (dsimp only; omega), by first | omega | (dsimp only; omega), ?_⟩
 intro a_1 e_2 h1 h2 ⟨a3, b3⟩ h4
 refine ⟨by first | omega | (dsimp only; omega), by first | omega | (dsimp only; omega), ?_⟩
 intro a_7 e_8 h5 h6 ⟨a7, b7⟩ h8
 exact hk _ _ h1 h5 ⟨a3, b3⟩ ⟨a7, b7⟩
theorem ends_ok : Holds Try.prog 70 endsS := by
  refine fn_sound (env := mkEnv F3r) (tab_ok F3r_ok) Try.func70 Try.call70 fun args k h => ?_
  match args, h with
  | [.sl 0 b], h => exact ⟨by kernel_rfl, fun _ _ => none, fun _ _ => none, .cast (by kernel_rfl) (ends_vc b h.1 k h.2)⟩
set_option maxHeartbeats 2000000 in
theorem askd_vc (d : List UInt8) (k : AV → List (Option Blk) → List Blk → Prop) (hk : ∀ (e : Int), e = askD d → e = 0 ∨ e = 180 ∨ e = 190 → k (.int .i64 e) [] []) : ∀ (e_1 : Int), (e_1 = chkE d) → br (e_1 == 0) (∀ (m_3 : Int), (m_3 = (↑(d.length / 64) : Int)) → br (bif true then decide (m_3 < 2) else false) ((k (.int .i64 190) [] [])) ((k (.int .i64 e_1) [] []))) ((false = false) ∧ (k (.int .i64 e_1) [] [])) := by
 intro e_1 h1
 refine br_intro (fun c2 => ?_) (fun c2 => ?_)
 ·
  simp at c2
  intro m_3 h3
  refine br_intro (fun c4 => ?_) (fun c4 => ?_)
  ·
   simp at c4
   have o : dOk d.length := chk_0.1 (h1.symm.trans c2)
   exact hk _ (by unfold askD; rw [if_pos o, if_pos (by omega)]) (by omega)
  simp at c4
  have o : dOk d.length := chk_0.1 (h1.symm.trans c2)
  exact hk _ (by unfold askD; rw [if_pos o, if_neg (by omega)]; exact c2) (by omega)
 simp at c2
 refine ⟨by with_reducible rfl, ?_⟩
 have o : ¬ dOk d.length := fun o => c2 (h1.trans (chk_0.2 o))
 unfold chkE at h1
 rw [if_neg o] at h1
 exact hk _ (by unfold askD; rw [if_neg o]; exact h1) (by omega)
theorem askd_ok : Holds Try.prog 45 askdS := by
  refine fn_sound (env := mkEnv F3r) (tab_ok F3r_ok) Try.func45 Try.call45 fun args k h => ?_
  match args, h with
  | [.agg [.sl 0 d]], h => exact ⟨by kernel_rfl, fun _ _ => none, fun _ _ => none, .cast (by kernel_rfl) (askd_vc d k h)⟩
set_option maxHeartbeats 2000000 in
theorem rslot_vc (d : List UInt8) (i : Int) (hd : D2 d ∧ 0 ≤ i ∧ i ≤ 1) (k : AV → List (Option Blk) → List Blk → Prop) (hk : ∀ (bl : List (List UInt8)) (n : Nat), bl = slotL d i → bl.length = n → k (.row 6 0 0 n) [] [.row 6 bl]) : ∀ (m_1 : Int), (m_1 = (↑(d.length / 64) : Int)) → ((2 : Int) ≠ (0 : Int)) ∧ ∀ (n3 : Int), (n3 = IntKind.i64.wrap (m_1.tdiv (2 : Int))) → (inK .i64 n3) → ∀ (n6 : Int), (n6 = IntKind.i64.wrap (i * n3)) → (inK .i64 n6) → (∃ (v : Nat × List (List UInt8)), (i = i) ∧ (n3 = (↑(half d) : Int)) ∧ (0 = 0) ∧ (0 = v.fst) ∧ (n6 = slo d i + (↑v.fst : Int)) ∧ ([] = v.snd) ∧ (d = d) ∧ (v.fst ≤ half d) ∧ ((0 ≤ i) ∧ (i ≤ 1)) ∧ ((1 ≤ half d) ∧ (half d ≤ 32)) ∧ ((0 ≤ slo d i) ∧ (slo d i ≤ 32) ∧ ((64 : Int) * slo d i + 64 * (↑(half d) : Int) ≤ (↑d.length : Int)) ∧ (d.length ≤ 4096)) ∧ (v.snd.length = v.fst) ∧ (v.snd = slotN d (slo d i) v.fst)) ∧ ∀ (v_9 : Nat × List (List UInt8)), (v_9.fst ≤ half d ∧ (0 ≤ i ∧ i ≤ 1) ∧ (1 ≤ half d ∧ half d ≤ 32) ∧ (0 ≤ slo d i ∧ slo d i ≤ 32 ∧ (64 : Int) * slo d i + 64 * (↑(half d) : Int) ≤ (↑d.length : Int) ∧ d.length ≤ 4096) ∧ v_9.snd.length = v_9.fst ∧ v_9.snd = slotN d (slo d i) v_9.fst) → ∀ (n11 : Int), (n11 = IntKind.i64.wrap (i * (↑(half d) : Int))) → (inK .i64 n11) → ∀ (n14 : Int), (n14 = IntKind.i64.wrap (n11 + (↑(half d) : Int))) → (inK .i64 n14) → br (decide (slo d i + (↑v_9.fst : Int) < n14)) (((0 ≤ slo d i + (↑v_9.fst : Int)) ∧ ((64 : Int) * (slo d i + (↑v_9.fst : Int)) + (64 : Int) ≤ (↑d.length : Int)) ∧ (d.length ≤ 1000000)) ∧ ∀ (ys_17 : List UInt8), ∀ (q_18 : Nat), (ys_17 = blk d (slo d i + (↑v_9.fst : Int))) → (ys_17.length = q_18) → ((v_9.fst + 1) * 24 ≤ 140737488355328) ∧ ∀ (z21 : List (List UInt8)), (z21 = List.take v_9.fst v_9.snd ++ List.take 1 (List.drop 0 [List.take q_18 (List.drop 0 ys_17)])) → ∀ (n23 : Int), (n23 = IntKind.i64.wrap (slo d i + (↑v_9.fst : Int) + (1 : Int))) → (inK .i64 n23) → ∃ (v' : Nat × List (List UInt8)), (i = i) ∧ ((↑(half d) : Int) = (↑(half d) : Int)) ∧ (0 = 0) ∧ (v_9.fst + 1 = v'.fst) ∧ (n23 = slo d i + (↑v'.fst : Int)) ∧ (z21 = v'.snd) ∧ (d = d) ∧ ((v'.fst ≤ half d) ∧ ((0 ≤ i) ∧ (i ≤ 1)) ∧ ((1 ≤ half d) ∧ (half d ≤ 32)) ∧ ((0 ≤ slo d i) ∧ (slo d i ≤ 32) ∧ ((64 : Int) * slo d i + 64 * (↑(half d) : Int) ≤ (↑d.length : Int)) ∧ (d.length ≤ 4096)) ∧ (v'.snd.length = v'.fst) ∧ (v'.snd = slotN d (slo d i) v'.fst)) ∧ (half d - v'.fst < half d - v_9.fst)) ((k (.row 6 0 0 v_9.fst) [] [.row 6 v_9.snd])) := by
 intro m_1 h1
 refine ⟨by first | omega | (dsimp only; omega), ?_⟩
 intro n3 q3
 rw [Int.tdiv_eq_ediv_of_nonneg (by omega)] at q3
 rw [IntKind.wrap_i64] at q3
 intro ⟨l3, u3⟩ n6 q6
 rw [IntKind.wrap_i64] at q6
 intro ⟨l6, u6⟩
 refine ⟨?_, ?_⟩
 ·
  refine ⟨((0 : Nat), []), rfl, ?_⟩
  have h2 : n3 = (↑(half d) : Int) := by
   have t : m_1 / 2 = (half d : Int) := by unfold half; omega
   rw [t] at q3
   have i2 := hd.1.in
   omega
  refine ⟨h2, rfl, rfl, ?_⟩
  have h3 : n6 = slo d i + (↑(0 : Nat) : Int) := by
   have t : m_1 / 2 = (half d : Int) := by unfold half; omega
   rw [t] at q3
   have i2 := hd.1.in
   have i3 := slo_in hd.1 hd.2
   have e : n3 = (half d : Int) := by omega
   rw [slo_mul e] at q6
   omega
  refine ⟨h3, rfl, rfl, by show (0 : Nat) ≤ half d; omega, by first | omega | (dsimp only; omega), ?_⟩
  refine ⟨?_, ?_⟩
  ·
   have h4 : (1 : Nat) ≤ half d := by
    exact hd.1.in.1
   refine ⟨h4, ?_⟩
   exact hd.1.in.2.1
  refine ⟨?_, ?_⟩
  ·
   have h5 : (0 : Int) ≤ slo d i := by
    have i3 := slo_in hd.1 hd.2
    omega
   refine ⟨h5, ?_⟩
   have h6 : slo d i ≤ (32 : Int) := by
    have i3 := slo_in hd.1 hd.2
    omega
   refine ⟨h6, ?_⟩
   have h7 : (64 : Int) * slo d i + (64 : Int) * (↑(half d) : Int) ≤ (↑d.length : Int) := by
    have i3 := slo_in hd.1 hd.2
    omega
   refine ⟨h7, ?_⟩
   exact hd.1.in.2.2.2.2
  refine ⟨rfl, ?_⟩
  exact by rfl
 intro v_9 h8 n11 q11
 rw [IntKind.wrap_i64] at q11
 intro ⟨l11, u11⟩ n14 q14
 rw [IntKind.wrap_i64] at q14
 intro ⟨l14, u14⟩
 refine brd (fun c9 => ?_) (fun c9 => ?_)
 ·
  refine ⟨?_, ?_⟩
  ·
   refine ⟨by first | omega | (dsimp only; omega), ?_⟩
   have h10 : (64 : Int) * (slo d i + (↑v_9.fst : Int)) + (64 : Int) ≤ (↑d.length : Int) := by
    rw [slo_mul rfl] at q11
    omega
   refine ⟨h10, ?_⟩
   exact by omega
  intro ys_17 q_18 h11 h12
  refine ⟨by first | omega | (dsimp only; omega), ?_⟩
  intro z21 qz21 n23 q23
  rw [IntKind.wrap_i64] at q23
  intro ⟨l23, u23⟩
  refine ⟨(v_9.fst + (1 : Nat), z21), rfl, rfl, rfl, rfl, by show n23 = slo d i + (↑(v_9.fst + (1 : Nat)) : Int); omega, rfl, rfl, ?_⟩
  refine ⟨?_, ?_⟩
  ·
   have h13 : v_9.fst + (1 : Nat) ≤ half d := by
    rw [slo_mul rfl] at q11
    omega
   refine ⟨h13, by first | omega | (dsimp only; omega), by first | omega | (dsimp only; omega), ?_⟩
   refine ⟨?_, ?_⟩
   ·
    refine ⟨by show (0 : Int) ≤ slo d i; omega, by show slo d i ≤ (32 : Int); omega, by show (64 : Int) * slo d i + (64 : Int) * (↑(half d) : Int) ≤ (↑d.length : Int); omega, ?_⟩
    exact by show d.length ≤ (4096 : Nat); omega
   have h14 : z21.length = v_9.fst + (1 : Nat) := by
    exact (slot_app h8.2.2.2.2.2 h8.2.2.2.2.1 h11 h12 qz21).2
   refine ⟨h14, ?_⟩
   exact (slot_app h8.2.2.2.2.2 h8.2.2.2.2.1 h11 h12 qz21).1
  rw [slo_mul rfl] at q11
  omega
 rw [slo_mul rfl] at q11
 have e : v_9.fst = half d := by omega
 exact hk _ _ (by rw [h8.2.2.2.2.2, e]; rfl) h8.2.2.2.2.1
theorem rslot_ok : Holds Try.prog 50 rslotS := by
  refine fn_sound (env := mkEnv F3r) (tab_ok F3r_ok) Try.func50 Try.call50 fun args k h => ?_
  match args, h with
  | [.agg [.sl 0 d], .int .i64 i], h => exact ⟨by kernel_rfl, rslotLoops d i, fun _ _ => none, .cast (by kernel_rfl) (rslot_vc d i h.1 k h.2)⟩
theorem rslotT_ok : Holds Try.prog 50 rslotT := rslot_up rslot_ok
end Go.Proofs.Ytcdflgfhkohldaa
