import Derived.Test.YtcdflgfhkohldaaStX
import Derived.Test.YtcdflgfhkohldaaStT
namespace Go.Proofs.Ytcdflgfhkohldaa
open Go Go.Eng Go.Rw Go.Lk Go.Proofs
open Go.Bk hiding take_step drop_step set_mid
open Go.St hiding take_step
set_option linter.unusedVariables false
theorem G2_ok : TabOk Try.prog G2 := ⟨askd_ok, rmany_ok, rblocksT_ok, rcountsT_ok, rslotT_ok, newest_ok, trivial⟩
theorem G1r_ok : TabOk Try.prog G1r := ⟨rnew_ok, trivial⟩
theorem G3c_ok : TabOk Try.prog G3c := ⟨samePl_ok, trivial⟩
set_option maxHeartbeats 2000000 in
theorem rformat_vc (n : Int) (k : AV → List (Option Blk) → List Blk → Prop) (hk : (∀ (e : Int), e = fmtE n → e ≠ (0 : Int) → 0 ≤ e ∧ e ≤ 190 → k (.tup [.agg [.nilsl], .int .i64 e]) [] []) ∧ (fmtE n = 0 → ∀ (ys : List UInt8) (q : Nat), ys = fmtO n → ys.length = q → k (.tup [.agg [.row 0 0 0 q], .int .i64 0]) [] [.row 0 ys])) : ((newE n ≠ (0 : Int)) → (k (.tup [.agg [.nilsl], .int .i64 180]) [] [])) ∧ ((newE n = 0) → ∀ (ys_1 : List UInt8), ∀ (q_2 : Nat), (ys_1 = newO n) → (ys_1.length = q_2) → br (n == 1) ((k (.tup [.agg [.nilsl], .int .i64 190]) [] [])) ((k (.tup [.agg [.row 0 0 0 q_2], .int .i64 0]) [] [.row 0 ys_1]))) := by
 refine ⟨?_, ?_⟩
 ·
  intro h1
  have hn : ¬ (1 ≤ n ∧ n ≤ 64) := fun c => h1 (by unfold newE; rw [if_pos c])
  exact hk.1 _ (fmt_180 hn) (by decide) (by omega)
 intro h2 ys_1 q_2 h3 h4
 refine br_intro (fun c5 => ?_) (fun c5 => ?_)
 ·
  simp at c5
  have hn : 1 ≤ n ∧ n ≤ 64 := by
   unfold newE at h2
   split at h2
   ·
    assumption
   cases h2
  exact hk.1 _ (fmt_190 hn c5) (by decide) (by omega)
 simp at c5
 have hn : 1 ≤ n ∧ n ≤ 64 := by
  unfold newE at h2
  split at h2
  ·
   assumption
  cases h2
 have z := fmt_0 hn c5
 exact hk.2 z _ _ (by unfold fmtO; rw [if_pos z, h3]; unfold newO; rw [if_pos hn]) h4
theorem rformat_ok : Holds Try.prog 16 formatS := by
  refine fn_sound (env := mkEnv G1r) (tab_ok G1r_ok) Try.func16 Try.call16 fun args k h => ?_
  match args, h with
  | [.int .i64 n], h => exact ⟨by kernel_rfl, fun _ _ => none, fun _ _ => none, .cast (by kernel_rfl) (rformat_vc n k h)⟩
set_option maxHeartbeats 2000000 in
theorem rputz_vc (d : List UInt8) (m : Int) (l : List Plan) (hm : 0 ≤ m ∧ m ≤ 255) (k : AV → List (Option Blk) → List Blk → Prop) (hk : (∀ (e : Int), PtR d m l e [] → e ≠ (0 : Int) → k (.tup [.nilsl, .int .i64 e]) [] []) ∧ ∀ (ps : List Put) (n : Nat), PtR d m l (0 : Int) ps → ps.length = n → k (.tup [.row 9 0 0 n, .int .i64 0]) [] [.row 9 ps]) : ∀ (e_1 : Int), (e_1 = askD d) → (e_1 = 0 ∨ e_1 = 180 ∨ e_1 = 190) → br (e_1 != 0) ((k (.tup [.nilsl, .int .i64 e_1]) [] [])) (br (decide (m > 3)) ((k (.tup [.nilsl, .int .i64 2]) [] [])) (∀ (m_4 : Int), (m_4 = (↑(d.length / 64) : Int)) → ((2 : Int) ≠ (0 : Int)) ∧ ∀ (n6 : Int), (n6 = IntKind.i64.wrap (m_4.tdiv (2 : Int))) → (inK .i64 n6) → ((((-9223372036854775808 : Int) ≤ (1 : Int)) ∧ ((1 : Int) ≤ (9223372036854775807 : Int))) ∧ (0 ≤ m) ∧ (m ≤ 255)) ∧ ∀ (e_9 : Int), ∀ (bl_10 : List (List UInt8)), (e_9 = blkE (1 : Int) m l n6) → (bl_10 = blkO (1 : Int) m l n6) → (0 ≤ e_9 ∧ e_9 ≤ 190) → ((e_9 = 0) → (bl_10.length = n6.toNat)) → br (e_9 != 0) ((k (.tup [.nilsl, .int .i64 e_9]) [] [])) ((D2 d) ∧ ∀ (c_15 : Int), ∀ (g_16 : Int), ∀ (m_17 : Int), ∀ (ps_18 : List Plan), (Cd d c_15 g_16 m_17 ps_18) → (-1 ≤ c_15 ∧ c_15 ≤ 1) → (0 ≤ g_16 ∧ g_16 ≤ 4611686018427387903) → (0 ≤ m_17 ∧ m_17 ≤ 3) → (ps_18.length ≤ 8) → br (c_15 == 0) ((∀ (n24 : Int), (n24 = g_16) → (inK .i64 n24) → ((D2 d) ∧ ((0 : Int) ≤ (1 : Int)) ∧ ((1 : Int) ≤ (1 : Int))) ∧ ∀ (bl_27 : List (List UInt8)), (bl_27 = slotL d (1 : Int)) → ((B64 bl_27) ∧ (0 ≤ n24) ∧ (n24 ≤ 4611686018427387903)) ∧ ∀ (r_29 : Int), (Nx n24 bl_27 r_29) → (1 ≤ r_29 ∧ r_29 ≤ 4611686018427387936) → ∃ (v : Int × Int), (m = m) ∧ (l = l) ∧ (n6 = (↑(half d) : Int)) ∧ (1 = v.snd) ∧ (r_29 = v.fst) ∧ ((1 ≤ half d) ∧ (half d ≤ 32)) ∧ ((0 ≤ m) ∧ (m ≤ 3)) ∧ ((1 ≤ v.fst) ∧ (v.fst ≤ 4611686018427387936)) ∧ ((0 ≤ v.snd) ∧ (v.snd ≤ 1)) ∧ (PQ d m l v.fst v.snd)) ∧ ∀ (v_32 : Int × Int), ((1 ≤ half d ∧ half d ≤ 32) ∧ (0 ≤ m ∧ m ≤ 3) ∧ (1 ≤ v_32.fst ∧ v_32.fst ≤ 4611686018427387936) ∧ (0 ≤ v_32.snd ∧ v_32.snd ≤ 1) ∧ PQ d m l v_32.fst v_32.snd) → br (decide (v_32.fst ≥ 4611686018427387904)) ((k (.tup [.nilsl, .int .i64 190]) [] [])) ((((-9223372036854775808 ≤ v_32.fst) ∧ (v_32.fst ≤ 9223372036854775807)) ∧ (0 ≤ m) ∧ (m ≤ 255)) ∧ ∀ (e_34 : Int), ∀ (bl_35 : List (List UInt8)), (e_34 = blkE v_32.fst m l (↑(half d) : Int)) → (bl_35 = blkO v_32.fst m l (↑(half d) : Int)) → (0 ≤ e_34 ∧ e_34 ≤ 190) → ((e_34 = 0) → (bl_35.length = (↑(half d) : Int).toNat)) → (∃ (v : Nat × List Put × List (List UInt8) × Int), ((↑(half d) : Int) = (↑(half d) : Int)) ∧ (v_32.snd = v.snd.snd.snd) ∧ (bl_35 = v.snd.snd.fst) ∧ (0 = 0) ∧ (0 = v.fst) ∧ ((0 : Int) = (↑v.fst : Int)) ∧ ([] = v.snd.fst) ∧ (v.fst ≤ half d) ∧ ((1 ≤ half d) ∧ (half d ≤ 32)) ∧ (v.snd.snd.fst.length = half d) ∧ ((0 ≤ v.snd.snd.snd) ∧ (v.snd.snd.snd ≤ 1)) ∧ ((0 ≤ slo d v.snd.snd.snd) ∧ (slo d v.snd.snd.snd ≤ 32)) ∧ (v.snd.fst.length = v.fst) ∧ (BQ d m l v.snd.snd.snd v.snd.snd.fst) ∧ (PuI (slo d v.snd.snd.snd) v.snd.snd.fst v.fst v.snd.fst)) ∧ ∀ (v_40 : Nat × List Put × List (List UInt8) × Int), (v_40.fst ≤ half d ∧ (1 ≤ half d ∧ half d ≤ 32) ∧ v_40.snd.snd.fst.length = half d ∧ (0 ≤ v_40.snd.snd.snd ∧ v_40.snd.snd.snd ≤ 1) ∧ (0 ≤ slo d v_40.snd.snd.snd ∧ slo d v_40.snd.snd.snd ≤ 32) ∧ v_40.snd.fst.length = v_40.fst ∧ BQ d m l v_40.snd.snd.snd v_40.snd.snd.fst ∧ PuI (slo d v_40.snd.snd.snd) v_40.snd.snd.fst v_40.fst v_40.snd.fst) → ∀ (n42 : Int), (n42 = (↑v_40.snd.snd.fst.length : Int)) → (inK .i64 n42) → br (decide ((↑v_40.fst : Int) < n42)) (∀ (n45 : Int), (n45 = IntKind.i64.wrap (v_40.snd.snd.snd * (↑(half d) : Int))) → (inK .i64 n45) → ∀ (n48 : Int), (n48 = IntKind.i64.wrap (n45 + (↑v_40.fst : Int))) → (inK .i64 n48) → ((0 : Int) ≤ (↑v_40.fst : Int)) ∧ ((↑v_40.fst : Int) < (↑v_40.snd.snd.fst.length : Int)) ∧ ((v_40.fst + 1) * 32 ≤ 140737488355328) ∧ ∀ (z51 : List Put), (z51 = List.take v_40.fst v_40.snd.fst ++ List.take 1 (List.drop 0 [{ n := n48, data := v_40.snd.snd.fst.getD (↑v_40.fst : Int).toNat (dflt 6) : Put }])) → ∀ (n53 : Int), (n53 = IntKind.i64.wrap ((↑v_40.fst : Int) + (1 : Int))) → (inK .i64 n53) → ∃ (v' : Nat × List Put × List (List UInt8) × Int), ((↑(half d) : Int) = (↑(half d) : Int)) ∧ (v_40.snd.snd.snd = v'.snd.snd.snd) ∧ (v_40.snd.snd.fst = v'.snd.snd.fst) ∧ (0 = 0) ∧ (v_40.fst + 1 = v'.fst) ∧ (n53 = (↑v'.fst : Int)) ∧ (z51 = v'.snd.fst) ∧ ((v'.fst ≤ half d) ∧ ((1 ≤ half d) ∧ (half d ≤ 32)) ∧ (v'.snd.snd.fst.length = half d) ∧ ((0 ≤ v'.snd.snd.snd) ∧ (v'.snd.snd.snd ≤ (1 : Int))) ∧ ((0 ≤ slo d v'.snd.snd.snd) ∧ (slo d v'.snd.snd.snd ≤ (32 : Int))) ∧ (v'.snd.fst.length = v'.fst) ∧ (BQ d m l v'.snd.snd.snd v'.snd.snd.fst) ∧ (PuI (slo d v'.snd.snd.snd) v'.snd.snd.fst v'.fst v'.snd.fst)) ∧ (half d - v'.fst < half d - v_40.fst)) ((k (.tup [.row 9 0 0 v_40.fst, .int .i64 0]) [] [.row 9 v_40.snd.fst])))) ((∀ (n56 : Int), (n56 = g_16) → (inK .i64 n56) → ((D2 d) ∧ ((0 : Int) ≤ (0 : Int)) ∧ ((0 : Int) ≤ (1 : Int))) ∧ ∀ (bl_59 : List (List UInt8)), (bl_59 = slotL d (0 : Int)) → ((B64 bl_59) ∧ (0 ≤ n56) ∧ (n56 ≤ 4611686018427387903)) ∧ ∀ (r_61 : Int), (Nx n56 bl_59 r_61) → (1 ≤ r_61 ∧ r_61 ≤ 4611686018427387936) → ∃ (v : Int × Int), (m = m) ∧ (l = l) ∧ (n6 = (↑(half d) : Int)) ∧ (0 = v.snd) ∧ (r_61 = v.fst) ∧ ((1 ≤ half d) ∧ (half d ≤ 32)) ∧ ((0 ≤ m) ∧ (m ≤ 3)) ∧ ((1 ≤ v.fst) ∧ (v.fst ≤ 4611686018427387936)) ∧ ((0 ≤ v.snd) ∧ (v.snd ≤ 1)) ∧ (PQ d m l v.fst v.snd)) ∧ ∀ (v_64 : Int × Int), ((1 ≤ half d ∧ half d ≤ 32) ∧ (0 ≤ m ∧ m ≤ 3) ∧ (1 ≤ v_64.fst ∧ v_64.fst ≤ 4611686018427387936) ∧ (0 ≤ v_64.snd ∧ v_64.snd ≤ 1) ∧ PQ d m l v_64.fst v_64.snd) → br (decide (v_64.fst ≥ 4611686018427387904)) ((k (.tup [.nilsl, .int .i64 190]) [] [])) ((((-9223372036854775808 ≤ v_64.fst) ∧ (v_64.fst ≤ 9223372036854775807)) ∧ (0 ≤ m) ∧ (m ≤ 255)) ∧ ∀ (e_66 : Int), ∀ (bl_67 : List (List UInt8)), (e_66 = blkE v_64.fst m l (↑(half d) : Int)) → (bl_67 = blkO v_64.fst m l (↑(half d) : Int)) → (0 ≤ e_66 ∧ e_66 ≤ 190) → ((e_66 = 0) → (bl_67.length = (↑(half d) : Int).toNat)) → (∃ (v : Nat × List Put × List (List UInt8) × Int), ((↑(half d) : Int) = (↑(half d) : Int)) ∧ (v_64.snd = v.snd.snd.snd) ∧ (bl_67 = v.snd.snd.fst) ∧ (0 = 0) ∧ (0 = v.fst) ∧ ((0 : Int) = (↑v.fst : Int)) ∧ ([] = v.snd.fst) ∧ (v.fst ≤ half d) ∧ ((1 ≤ half d) ∧ (half d ≤ 32)) ∧ (v.snd.snd.fst.length = half d) ∧ ((0 ≤ v.snd.snd.snd) ∧ (v.snd.snd.snd ≤ 1)) ∧ ((0 ≤ slo d v.snd.snd.snd) ∧ (slo d v.snd.snd.snd ≤ 32)) ∧ (v.snd.fst.length = v.fst) ∧ (BQ d m l v.snd.snd.snd v.snd.snd.fst) ∧ (PuI (slo d v.snd.snd.snd) v.snd.snd.fst v.fst v.snd.fst)) ∧ ∀ (v_72 : Nat × List Put × List (List UInt8) × Int), (v_72.fst ≤ half d ∧ (1 ≤ half d ∧ half d ≤ 32) ∧ v_72.snd.snd.fst.length = half d ∧ (0 ≤ v_72.snd.snd.snd ∧ v_72.snd.snd.snd ≤ 1) ∧ (0 ≤ slo d v_72.snd.snd.snd ∧ slo d v_72.snd.snd.snd ≤ 32) ∧ v_72.snd.fst.length = v_72.fst ∧ BQ d m l v_72.snd.snd.snd v_72.snd.snd.fst ∧ PuI (slo d v_72.snd.snd.snd) v_72.snd.snd.fst v_72.fst v_72.snd.fst) → ∀ (n74 : Int), (n74 = (↑v_72.snd.snd.fst.length : Int)) → (inK .i64 n74) → br (decide ((↑v_72.fst : Int) < n74)) (∀ (n77 : Int), (n77 = IntKind.i64.wrap (v_72.snd.snd.snd * (↑(half d) : Int))) → (inK .i64 n77) → ∀ (n80 : Int), (n80 = IntKind.i64.wrap (n77 + (↑v_72.fst : Int))) → (inK .i64 n80) → ((0 : Int) ≤ (↑v_72.fst : Int)) ∧ ((↑v_72.fst : Int) < (↑v_72.snd.snd.fst.length : Int)) ∧ ((v_72.fst + 1) * 32 ≤ 140737488355328) ∧ ∀ (z83 : List Put), (z83 = List.take v_72.fst v_72.snd.fst ++ List.take 1 (List.drop 0 [{ n := n80, data := v_72.snd.snd.fst.getD (↑v_72.fst : Int).toNat (dflt 6) : Put }])) → ∀ (n85 : Int), (n85 = IntKind.i64.wrap ((↑v_72.fst : Int) + (1 : Int))) → (inK .i64 n85) → ∃ (v' : Nat × List Put × List (List UInt8) × Int), ((↑(half d) : Int) = (↑(half d) : Int)) ∧ (v_72.snd.snd.snd = v'.snd.snd.snd) ∧ (v_72.snd.snd.fst = v'.snd.snd.fst) ∧ (0 = 0) ∧ (v_72.fst + 1 = v'.fst) ∧ (n85 = (↑v'.fst : Int)) ∧ (z83 = v'.snd.fst) ∧ ((v'.fst ≤ half d) ∧ ((1 ≤ half d) ∧ (half d ≤ 32)) ∧ (v'.snd.snd.fst.length = half d) ∧ ((0 ≤ v'.snd.snd.snd) ∧ (v'.snd.snd.snd ≤ (1 : Int))) ∧ ((0 ≤ slo d v'.snd.snd.snd) ∧ (slo d v'.snd.snd.snd ≤ (32 : Int))) ∧ (v'.snd.fst.length = v'.fst) ∧ (BQ d m l v'.snd.snd.snd v'.snd.snd.fst) ∧ (PuI (slo d v'.snd.snd.snd) v'.snd.snd.fst v'.fst v'.snd.fst)) ∧ (half d - v'.fst < half d - v_72.fst)) ((k (.tup [.row 9 0 0 v_72.fst, .int .i64 0]) [] [.row 9 v_72.snd.fst]))))))) := by
 intro e_1 h1 h2
 refine br_intro (fun c3 => ?_) (fun c3 => ?_)
 ·
  simp at c3
  exact hk.1 _ (pt_a h1 (by assumption)) (by assumption)
 simp at c3
 refine brd (fun c4 => ?_) (fun c4 => ?_)
 ·
  exact hk.1 _ (pt_b (h1.symm.trans c3) (by omega)) (by decide)
 intro m_4 h5
 refine ⟨by first | omega | (dsimp only; omega), ?_⟩
 intro n6 q6
 rw [Int.tdiv_eq_ediv_of_nonneg (by omega)] at q6
 first | (rw [wrI64] at q6; rotate_left 1; · omega) | rw [IntKind.wrap_i64] at q6
 intro ⟨l6, u6⟩
 refine ⟨?_, ?_⟩
 ·
  refine ⟨by first | omega | (dsimp only; omega), by first | omega | (dsimp only; omega), ?_⟩
  exact by omega
 intro e_9 bl_10 h6 h7 ⟨a8, b8⟩ h9
 refine br_intro (fun c10 => ?_) (fun c10 => ?_)
 ·
  simp at c10
  have o := askD_0 (h1.symm.trans c3)
  have di := o.in
  have h2 : half d = d.length / 64 / 2 := rfl
  have hh : n6 = (half d : Int) := by omega
  rw [hh] at h6
  exact hk.1 _ (pt_c (h1.symm.trans c3) (by omega) h6 (by assumption)) (by assumption)
 simp at c10
 have h11 : D2 d := by
  exact askD_0 (h1.symm.trans c3)
 refine ⟨h11, ?_⟩
 intro c_15 g_16 m_17 ps_18 h12 ⟨a13, b13⟩ ⟨a14, b14⟩ ⟨a15, b15⟩ h16
 refine br_intro (fun c17 => ?_) (fun c17 => ?_)
 ·
  simp at c17
  refine ⟨?_, ?_⟩
  ·
   intro n24 q24 ⟨l24, u24⟩
   refine ⟨?_, ?_⟩
   ·
    refine ⟨by assumption, by first | omega | (dsimp only; omega), ?_⟩
    exact by omega
   intro bl_27 h18
   refine ⟨?_, ?_⟩
   ·
    have h19 : B64 bl_27 := by
     rw [h18]; exact slot_b64 (askD_0 (h1.symm.trans c3)) (by omega)
    refine ⟨h19, by first | omega | (dsimp only; omega), ?_⟩
    exact by omega
   intro r_29 h20 ⟨a21, b21⟩
   refine ⟨(r_29, (1 : Int)), rfl, rfl, ?_⟩
   have h22 : n6 = (↑(half d) : Int) := by
    have o := askD_0 (h1.symm.trans c3)
    have di := o.in
    have h2 : half d = d.length / 64 / 2 := rfl
    omega
   refine ⟨h22, rfl, rfl, ?_⟩
   refine ⟨?_, ?_⟩
   ·
    have h23 : (1 : Nat) ≤ half d := by
     have := (askD_0 (h1.symm.trans c3)).in; omega
    refine ⟨h23, ?_⟩
    have := (askD_0 (h1.symm.trans c3)).in; omega
   refine ⟨by first | omega | (dsimp only; omega), by exact ⟨by assumption, by assumption⟩, by first | omega | (dsimp only; omega), ?_⟩
   have D := askD_0 (h1.symm.trans c3)
   have hh : n6 = (half d : Int) := by omega
   rw [hh] at h6
   rw [q24] at h20
   exact pq_of D (by omega) (h6.symm.trans c10) h12 (by rw [if_pos c17]) h18 h20
  intro v_32 h24
  refine brd (fun c25 => ?_) (fun c25 => ?_)
  ·
   exact hk.1 _ (pt_d h24.2.2.2.2 (by omega)) (by decide)
  refine ⟨?_, ?_⟩
  ·
   refine ⟨by first | omega | (dsimp only; omega), by first | omega | (dsimp only; omega), ?_⟩
   exact by omega
  intro e_34 bl_35 h26 h27 ⟨a28, b28⟩ h29
  refine ⟨?_, ?_⟩
  ·
   refine ⟨((0 : Nat), [], bl_35, v_32.snd), rfl, rfl, rfl, rfl, rfl, by show (0 : Int) = (↑(0 : Nat) : Int); omega, rfl, by show (0 : Nat) ≤ half d; omega, by first | omega | (dsimp only; omega), ?_⟩
   have h30 : bl_35.length = half d := by
    rw [h27, blkO_len (blkE_gen (g := v_32.fst) h24.2.2.2.2.b (by omega))]
    omega
   refine ⟨h30, by first | omega | (dsimp only; omega), ?_⟩
   refine ⟨?_, ?_⟩
   ·
    have h31 : (0 : Int) ≤ slo d v_32.snd := by
     have D := askD_0 h24.2.2.2.2.a
     have := slo_in D (i := v_32.snd) (by omega)
     try dsimp only
     omega
    refine ⟨h31, ?_⟩
    have D := askD_0 h24.2.2.2.2.a
    have := slo_in D (i := v_32.snd) (by omega)
    try dsimp only
    omega
   refine ⟨rfl, ?_⟩
   have h32 : BQ d m l v_32.snd bl_35 := by
    exact ⟨_, h24.2.2.2.2, by omega, h27⟩
   refine ⟨h32, ?_⟩
   exact pu_0 _ _
  intro v_40 h33 n42 q42 ⟨l42, u42⟩
  refine brd (fun c34 => ?_) (fun c34 => ?_)
  ·
   intro n45 q45
   first | (rw [wrI64] at q45; rotate_left 1; · omega) | rw [IntKind.wrap_i64] at q45
   intro ⟨l45, u45⟩ n48 q48
   first | (rw [wrI64] at q48; rotate_left 1; · omega) | rw [IntKind.wrap_i64] at q48
   intro ⟨l48, u48⟩
   refine ⟨by first | omega | (dsimp only; omega), by first | omega | (dsimp only; omega), by first | omega | (dsimp only; omega), ?_⟩
   intro z51 qz51 n53 q53
   first | (rw [wrI64] at q53; rotate_left 1; · omega) | rw [IntKind.wrap_i64] at q53
   intro ⟨l53, u53⟩
   refine ⟨(v_40.fst + (1 : Nat), z51, v_40.snd.snd.fst, v_40.snd.snd.snd), rfl, rfl, rfl, rfl, rfl, by show n53 = (↑(v_40.fst + (1 : Nat)) : Int); omega, rfl, ?_⟩
   refine ⟨?_, ?_⟩
   ·
    refine ⟨by show v_40.fst + (1 : Nat) ≤ half d; omega, by first | omega | (dsimp only; omega), by show v_40.snd.snd.fst.length = half d; omega, by first | omega | (dsimp only; omega), by first | omega | (dsimp only; omega), ?_⟩
    have h35 : z51.length = v_40.fst + (1 : Nat) := by
     rw [slo_mul rfl] at q45
     have D := askD_0 (BQ.h h33.2.2.2.2.2.2.1).choose_spec.1.a
     have e : n48 = slo d v_40.snd.snd.snd + (v_40.fst : Int) := by omega
     exact (pu_step h33.2.2.2.2.2.2.2 h33.2.2.2.2.2.1 e (by rw [Int.toNat_natCast]; rfl) qz51).2
    refine ⟨h35, ?_⟩
    have h36 : BQ d m l v_40.snd.snd.snd v_40.snd.snd.fst := by
     exact h33.2.2.2.2.2.2.1
    refine ⟨h36, ?_⟩
    rw [slo_mul rfl] at q45
    have D := askD_0 (BQ.h h33.2.2.2.2.2.2.1).choose_spec.1.a
    have e : n48 = slo d v_40.snd.snd.snd + (v_40.fst : Int) := by omega
    exact (pu_step h33.2.2.2.2.2.2.2 h33.2.2.2.2.2.1 e (by rw [Int.toNat_natCast]; rfl) qz51).1
   exact by show half d - (v_40.fst + (1 : Nat)) < half d - v_40.fst; omega
  exact hk.2 _ _ (pt_f h33.2.2.2.2.2.2.1 h33.2.2.2.2.2.2.2 (by omega)) h33.2.2.2.2.2.1
 simp at c17
 refine ⟨?_, ?_⟩
 ·
  intro n56 q56 ⟨l56, u56⟩
  refine ⟨?_, ?_⟩
  ·
   refine ⟨by assumption, by first | omega | (dsimp only; omega), ?_⟩
   exact by omega
  intro bl_59 h37
  refine ⟨?_, ?_⟩
  ·
   have h38 : B64 bl_59 := by
    rw [h37]; exact slot_b64 (askD_0 (h1.symm.trans c3)) (by omega)
   refine ⟨h38, by first | omega | (dsimp only; omega), ?_⟩
   exact by omega
  intro r_61 h39 ⟨a40, b40⟩
  refine ⟨(r_61, (0 : Int)), rfl, rfl, ?_⟩
  have h41 : n6 = (↑(half d) : Int) := by
   have o := askD_0 (h1.symm.trans c3)
   have di := o.in
   have h2 : half d = d.length / 64 / 2 := rfl
   omega
  refine ⟨h41, rfl, rfl, ?_⟩
  refine ⟨?_, ?_⟩
  ·
   have h42 : (1 : Nat) ≤ half d := by
    have := (askD_0 (h1.symm.trans c3)).in; omega
   refine ⟨h42, ?_⟩
   have := (askD_0 (h1.symm.trans c3)).in; omega
  refine ⟨by first | omega | (dsimp only; omega), by exact ⟨by assumption, by assumption⟩, by first | omega | (dsimp only; omega), ?_⟩
  have D := askD_0 (h1.symm.trans c3)
  have hh : n6 = (half d : Int) := by omega
  rw [hh] at h6
  rw [q56] at h39
  exact pq_of D (by omega) (h6.symm.trans c10) h12 (by rw [if_neg c17]) h37 h39
 intro v_64 h43
 refine brd (fun c44 => ?_) (fun c44 => ?_)
 ·
  exact hk.1 _ (pt_d h43.2.2.2.2 (by omega)) (by decide)
 refine ⟨?_, ?_⟩
 ·
  refine ⟨by first | omega | (dsimp only; omega), by first | omega | (dsimp only; omega), ?_⟩
  exact by omega
 intro e_66 bl_67 h45 h46 ⟨a47, b47⟩ h48
 refine ⟨?_, ?_⟩
 ·
  refine ⟨((0 : Nat), [], bl_67, v_64.snd), rfl, rfl, rfl, rfl, rfl, by show (0 : Int) = (↑(0 : Nat) : Int); omega, rfl, by show (0 : Nat) ≤ half d; omega, by first | omega | (dsimp only; omega), ?_⟩
  have h49 : bl_67.length = half d := by
   rw [h46, blkO_len (blkE_gen (g := v_64.fst) h43.2.2.2.2.b (by omega))]
   omega
  refine ⟨h49, by first | omega | (dsimp only; omega), ?_⟩
  refine ⟨?_, ?_⟩
  ·
   have h50 : (0 : Int) ≤ slo d v_64.snd := by
    have D := askD_0 h43.2.2.2.2.a
    have := slo_in D (i := v_64.snd) (by omega)
    try dsimp only
    omega
   refine ⟨h50, ?_⟩
   have D := askD_0 h43.2.2.2.2.a
   have := slo_in D (i := v_64.snd) (by omega)
   try dsimp only
   omega
  refine ⟨rfl, ?_⟩
  have h51 : BQ d m l v_64.snd bl_67 := by
   exact ⟨_, h43.2.2.2.2, by omega, h46⟩
  refine ⟨h51, ?_⟩
  exact pu_0 _ _
 intro v_72 h52 n74 q74 ⟨l74, u74⟩
 refine brd (fun c53 => ?_) (fun c53 => ?_)
 ·
  intro n77 q77
  first | (rw [wrI64] at q77; rotate_left 1; · omega) | rw [IntKind.wrap_i64] at q77
  intro ⟨l77, u77⟩ n80 q80
  first | (rw [wrI64] at q80; rotate_left 1; · omega) | rw [IntKind.wrap_i64] at q80
  intro ⟨l80, u80⟩
  refine ⟨by first | omega | (dsimp only; omega), by first | omega | (dsimp only; omega), by first | omega | (dsimp only; omega), ?_⟩
  intro z83 qz83 n85 q85
  first | (rw [wrI64] at q85; rotate_left 1; · omega) | rw [IntKind.wrap_i64] at q85
  intro ⟨l85, u85⟩
  refine ⟨(v_72.fst + (1 : Nat), z83, v_72.snd.snd.fst, v_72.snd.snd.snd), rfl, rfl, rfl, rfl, rfl, by show n85 = (↑(v_72.fst + (1 : Nat)) : Int); omega, rfl, ?_⟩
  refine ⟨?_, ?_⟩
  ·
   refine ⟨by show v_72.fst + (1 : Nat) ≤ half d; omega, by first | omega | (dsimp only; omega), by show v_72.snd.snd.fst.length = half d; omega, by first | omega | (dsimp only; omega), by first | omega | (dsimp only; omega), ?_⟩
   have h54 : z83.length = v_72.fst + (1 : Nat) := by
    rw [slo_mul rfl] at q77
    have D := askD_0 (BQ.h h52.2.2.2.2.2.2.1).choose_spec.1.a
    have e : n80 = slo d v_72.snd.snd.snd + (v_72.fst : Int) := by omega
    exact (pu_step h52.2.2.2.2.2.2.2 h52.2.2.2.2.2.1 e (by rw [Int.toNat_natCast]; rfl) qz83).2
   refine ⟨h54, ?_⟩
   have h55 : BQ d m l v_72.snd.snd.snd v_72.snd.snd.fst := by
    exact h52.2.2.2.2.2.2.1
   refine ⟨h55, ?_⟩
   rw [slo_mul rfl] at q77
   have D := askD_0 (BQ.h h52.2.2.2.2.2.2.1).choose_spec.1.a
   have e : n80 = slo d v_72.snd.snd.snd + (v_72.fst : Int) := by omega
   exact (pu_step h52.2.2.2.2.2.2.2 h52.2.2.2.2.2.1 e (by rw [Int.toNat_natCast]; rfl) qz83).1
  exact by show half d - (v_72.fst + (1 : Nat)) < half d - v_72.fst; omega
 exact hk.2 _ _ (pt_f h52.2.2.2.2.2.2.1 h52.2.2.2.2.2.2.2 (by omega)) h52.2.2.2.2.2.1
theorem rputz_ok : Holds Try.prog 20 putzS := by
  refine fn_sound (env := mkEnv G2) (tab_ok G2_ok) Try.func20 Try.call20 fun args k h => ?_
  match args, h with
  | [.agg [.sl 0 d], .int .u8 m, .sl 10 l], h => exact ⟨by kernel_rfl, rputzLoops d m l, rputzCuts d m l, .cast (by kernel_rfl) (rputz_vc d m l h.1 k h.2)⟩
set_option maxHeartbeats 2000000 in
theorem samePu_vc (a : List Put) (b : List Put) (k : AV → List (Option Blk) → List Blk → Prop) (hk : ∀ (r : Bool), (r = true ↔ a = b) → k (.bool r) [] []) : ∀ (n1 : Int), (n1 = (↑a.length : Int)) → (inK .i64 n1) → ∀ (n4 : Int), (n4 = (↑b.length : Int)) → (inK .i64 n4) → br (n1 != n4) ((k (.bool false) [] [])) ((∃ (v : Nat), (a = a) ∧ (b = b) ∧ ((0 : Int) = (↑v : Int)) ∧ (v ≤ a.length) ∧ (a.length = b.length) ∧ (eqP a b v)) ∧ ∀ (v_7 : Nat), (v_7 ≤ a.length ∧ a.length = b.length ∧ eqP a b v_7) → ∀ (n9 : Int), (n9 = (↑a.length : Int)) → (inK .i64 n9) → br (decide ((↑v_7 : Int) < n9)) (((0 : Int) ≤ (↑v_7 : Int)) ∧ ((↑v_7 : Int) < (↑a.length : Int)) ∧ ∀ (n12 : Int), (n12 = (a.getD (↑v_7 : Int).toNat (dflt 9)).n) → (inK .i64 n12) → ((0 : Int) ≤ (↑v_7 : Int)) ∧ ((↑v_7 : Int) < (↑b.length : Int)) ∧ ∀ (n15 : Int), (n15 = (b.getD (↑v_7 : Int).toNat (dflt 9)).n) → (inK .i64 n15) → (((n12 != n15) = false) → ((0 : Int) ≤ (↑v_7 : Int)) ∧ ((↑v_7 : Int) < (↑a.length : Int))) ∧ (((n12 != n15) = false) → ((0 : Int) ≤ (↑v_7 : Int)) ∧ ((↑v_7 : Int) < (↑b.length : Int))) ∧ br (bif n12 != n15 then true else !{ data := (a.getD (↑v_7 : Int).toNat (dflt 9)).data.toArray : ByteArray }.data.toList == { data := (b.getD (↑v_7 : Int).toNat (dflt 9)).data.toArray : ByteArray }.data.toList) ((k (.bool false) [] [])) (∀ (n20 : Int), (n20 = IntKind.i64.wrap ((↑v_7 : Int) + (1 : Int))) → (inK .i64 n20) → ∃ (v' : Nat), (a = a) ∧ (b = b) ∧ (n20 = (↑v' : Int)) ∧ ((v' ≤ a.length) ∧ (a.length = b.length) ∧ (eqP a b v')) ∧ (a.length - v' < a.length - v_7))) ((k (.bool true) [] []))) := by
 intro n1 q1 ⟨l1, u1⟩ n4 q4 ⟨l4, u4⟩
 refine br_intro (fun c1 => ?_) (fun c1 => ?_)
 ·
  simp at c1
  refine hk false ⟨fun e => (by cases e), fun e => ?_⟩
  subst e
  exact absurd (by omega) c1
 simp at c1
 refine ⟨?_, ?_⟩
 ·
  refine ⟨Int.toNat (0 : Int), rfl, rfl, by show (0 : Int) = (↑(Int.toNat (0 : Int)) : Int); omega, by show Int.toNat (0 : Int) ≤ a.length; omega, by show a.length = b.length; omega, ?_⟩
  exact eqp_0 _ _
 intro v_7 h2 n9 q9 ⟨l9, u9⟩
 refine brd (fun c3 => ?_) (fun c3 => ?_)
 ·
  refine ⟨by first | omega | (dsimp only; omega), by first | omega | (dsimp only; omega), ?_⟩
  intro n12 q12 ⟨l12, u12⟩
  refine ⟨by first | omega | (dsimp only; omega), by first | omega | (dsimp only; omega), ?_⟩
  intro n15 q15 ⟨l15, u15⟩
  refine ⟨?_, ?_⟩
  ·
   intro h4
   simp at h4
   refine ⟨by first | omega | (dsimp only; omega), ?_⟩
   exact by omega
  refine ⟨?_, ?_⟩
  ·
   intro h5
   simp at h5
   refine ⟨by first | omega | (dsimp only; omega), ?_⟩
   exact by omega
  refine br_intro (fun c6 => ?_) (fun c6 => ?_)
  ·
   simp at c6
   refine hk false ⟨fun e => (by cases e), fun e => ?_⟩
   subst e
   rcases c6 with c | c
   ·
    exact absurd (q12.trans q15.symm) c
   exact absurd rfl c
  simp at c6
  intro n20 q20
  first | (rw [wrI64] at q20; rotate_left 1; · omega) | rw [IntKind.wrap_i64] at q20
  intro ⟨l20, u20⟩
  refine ⟨n20.toNat, rfl, rfl, by show n20 = (↑n20.toNat : Int); omega, ?_⟩
  refine ⟨?_, ?_⟩
  ·
   refine ⟨by show n20.toNat ≤ a.length; omega, by show a.length = b.length; omega, ?_⟩
   rw [show n20.toNat = v_7 + 1 by omega]
   rw [Int.toNat_natCast] at q12 q15
   exact eqp_step (dflt 9) h2.2.2 (by omega) (by omega) (put_eq (q12.symm.trans (c6.1.trans q15)) (by rw [List.getD_eq_getElem?_getD, List.getD_eq_getElem?_getD]; exact c6.2))
  exact by show a.length - n20.toNat < a.length - v_7; omega
 exact hk true ⟨fun _ => eqp_all h2.2.2 (by omega) (by omega), fun _ => rfl⟩
theorem samePu_ok : Holds Try.prog 24 samePuS := by
  refine fn_sound (env := mkEnv G3b) (tab_ok G3b_ok) Try.func24 Try.call24 fun args k h => ?_
  match args, h with
  | [.sl 9 a, .sl 9 b], h => exact ⟨by kernel_rfl, samePuLoops a b, fun _ _ => none, .cast (by kernel_rfl) (samePu_vc a b k h)⟩
set_option maxHeartbeats 2000000 in
theorem sameK_vc (g : Int) (m : Int) (ps : List Plan) (g' : Int) (m' : Int) (ps' : List Plan) (k : AV → List (Option Blk) → List Blk → Prop) (hk : ∀ (r : Bool), (r = true ↔ g = g' ∧ m = m' ∧ ps = ps') → k (.bool r) [] []) : ∀ (n1 : Int), (n1 = g) → (inK .i64 n1) → ∀ (n4 : Int), (n4 = g') → (inK .i64 n4) → ∀ (n7 : Int), (n7 = m) → ∀ (n9 : Int), (n9 = m') → br (bif n1 == n4 then n7 == n9 else false) (∀ (r_11 : Bool), (r_11 = true ↔ ps = ps') → (k (.bool (bif true then r_11 else false)) [] [])) ((false = false) ∧ (k (.bool false) [] [])) := by
 intro n1 q1 ⟨l1, u1⟩ n4 q4 ⟨l4, u4⟩ n7 q7 n9 q9
 refine br_intro (fun c1 => ?_) (fun c1 => ?_)
 ·
  simp at c1
  intro r_11 h2
  refine hk _ ?_
  rw [cond_true, h2]
  constructor
  ·
   intro e; exact ⟨by omega, by omega, e⟩
  rintro ⟨-, -, e⟩; exact e
 simp at c1
 refine ⟨by with_reducible rfl, ?_⟩
 refine hk false ⟨fun e => (by cases e), ?_⟩
 rintro ⟨e1, e2, -⟩
 exact absurd (show n7 = n9 by omega) (c1 (by omega))
theorem sameK_ok : Holds Try.prog 23 sameKS := by
  refine fn_sound (env := mkEnv G3c) (tab_ok G3c_ok) Try.func23 Try.call23 fun args k h => ?_
  match args, h with
  | [.agg [.int .i64 g, .int .u8 m, .sl 10 ps], .agg [.int .i64 g', .int .u8 m', .sl 10 ps']], h => exact ⟨by kernel_rfl, fun _ _ => none, fun _ _ => none, .cast (by kernel_rfl) (sameK_vc g m ps g' m' ps' k h)⟩
theorem rformatT_ok : Holds Try.prog 16 formatT := format_up rformat_ok
theorem rputzT_ok : Holds Try.prog 20 putzT := putz_up rputz_ok
end Go.Proofs.Ytcdflgfhkohldaa
