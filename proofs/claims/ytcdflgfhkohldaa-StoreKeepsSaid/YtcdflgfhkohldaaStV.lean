import Derived.Test.YtcdflgfhkohldaaStU
namespace Go.Proofs.Ytcdflgfhkohldaa
open Go Go.Eng Go.Rw Go.Lk Go.Proofs
open Go.Bk hiding take_step drop_step set_mid
open Go.St hiding take_step
set_option linter.unusedVariables false
set_option maxHeartbeats 2000000 in
theorem readz_vc (n : Nat) (bl : List (List UInt8)) (hb : B64 bl ∧ n = bl.length) (k : AV → List (Option Blk) → List Blk → Prop) (hk : (KF bl false (0 : Int) (0 : Int) [] → k (.tup []) [some (.cells [.int .i64 0, .int .u8 0, .nilsl, .row 6 1 0 n, .bool false]), some (.row 6 bl)] []) ∧ ∀ (g m : Int) (ps : List Plan), KF bl true g m ps → k (.tup []) [some (.cells [.int .i64 g, .int .u8 m, .sl 10 ps, .row 6 1 0 n, .bool true]), some (.row 6 bl)] []) : ∀ (n1 : Int), (n1 = (↑n : Int)) → (inK .i64 n1) → (∃ (v : Nat × Nat × List UInt8), (0 = 0) ∧ (0 = v.snd.fst) ∧ (0 = 0) ∧ (n = n) ∧ (n1 = (↑n : Int)) ∧ ((0 : Int) = (↑v.fst : Int)) ∧ ((0 : Int) = (0 : Int)) ∧ ((0 : Int) = (0 : Int)) ∧ (0 = 0) ∧ (n = n) ∧ (false = false) ∧ (bl = bl) ∧ ([] = v.snd.snd) ∧ (v.fst ≤ bl.length) ∧ ((1 ≤ bl.length) ∧ (bl.length ≤ 32)) ∧ (n = bl.length) ∧ (v.snd.fst = 48 * v.fst) ∧ (v.snd.snd.length = v.snd.fst) ∧ (MidI bl v.fst v.snd.snd)) ∧ ∀ (v_4 : Nat × Nat × List UInt8), (v_4.fst ≤ bl.length ∧ (1 ≤ bl.length ∧ bl.length ≤ 32) ∧ n = bl.length ∧ v_4.snd.fst = 48 * v_4.fst ∧ v_4.snd.snd.length = v_4.snd.fst ∧ MidI bl v_4.fst v_4.snd.snd) → br (decide ((↑v_4.fst : Int) < (↑n : Int))) (((0 : Int) ≤ (↑v_4.fst : Int)) ∧ ((↑v_4.fst : Int) < (↑n : Int)) ∧ (0 + (↑v_4.fst : Int).toNat < bl.length) ∧ ((0 : Int) ≤ (8 : Int)) ∧ ((8 : Int) ≤ (↑(bl.getD (0 + (↑v_4.fst : Int).toNat) (dflt 6)).length : Int)) ∧ ((0 : Int) ≤ (48 : Int)) ∧ ((48 : Int) ≤ (↑(List.drop (Int.toNat (8 : Int)) (bl.getD (0 + (↑v_4.fst : Int).toNat) (dflt 6))).length : Int)) ∧ ((v_4.snd.fst + (List.take (Int.toNat (48 : Int)) (List.drop (Int.toNat (8 : Int)) (bl.getD (0 + (↑v_4.fst : Int).toNat) (dflt 6)))).length) * 1 ≤ 140737488355328) ∧ ∀ (z6 : List UInt8), (z6 = List.take v_4.snd.fst v_4.snd.snd ++ List.take (Int.toNat (48 : Int)) (List.drop (Int.toNat (8 : Int)) (bl.getD (0 + (↑v_4.fst : Int).toNat) (dflt 6)))) → ∀ (n8 : Int), (n8 = IntKind.i64.wrap ((↑v_4.fst : Int) + (1 : Int))) → (inK .i64 n8) → ∃ (v' : Nat × Nat × List UInt8), (0 = 0) ∧ (v_4.snd.fst + (List.take (Int.toNat (48 : Int)) (List.drop (Int.toNat (8 : Int)) (bl.getD (0 + (↑v_4.fst : Int).toNat) (dflt 6)))).length = v'.snd.fst) ∧ (0 = 0) ∧ (n = n) ∧ ((↑n : Int) = (↑n : Int)) ∧ (n8 = (↑v'.fst : Int)) ∧ ((0 : Int) = (0 : Int)) ∧ ((0 : Int) = (0 : Int)) ∧ (0 = 0) ∧ (n = n) ∧ (false = false) ∧ (bl = bl) ∧ (z6 = v'.snd.snd) ∧ ((v'.fst ≤ bl.length) ∧ ((1 ≤ bl.length) ∧ (bl.length ≤ 32)) ∧ (n = bl.length) ∧ (v'.snd.fst = 48 * v'.fst) ∧ (v'.snd.snd.length = v'.snd.fst) ∧ (MidI bl v'.fst v'.snd.snd)) ∧ (bl.length - v'.fst < bl.length - v_4.fst)) (((0 : Int) ≤ (0 : Int)) ∧ ((0 : Int) < (↑n : Int)) ∧ (0 + Int.toNat 0 < bl.length) ∧ ((0 : Int) ≤ (8 : Int)) ∧ ((8 : Int) ≤ (↑(bl.getD (0 + Int.toNat (0 : Int)) (dflt 6)).length : Int)) ∧ ∀ (a_11 : Int), (a_11 = gV (List.take (Int.toNat (8 : Int)) (bl.getD (0 + Int.toNat (0 : Int)) (dflt 6)))) → (inK .u64 a_11) → ((List.take v_4.snd.fst (List.drop 0 v_4.snd.snd)).length ≤ 1000000) ∧ ∀ (a_14 : Int), ∀ (b_15 : Int), ∀ (c_16 : Int), (a_14 = (↑(readG 0 0 (List.take v_4.snd.fst (List.drop 0 v_4.snd.snd))).fst : Int)) → (b_15 = (↑(readG 0 0 (List.take v_4.snd.fst (List.drop 0 v_4.snd.snd))).snd.fst : Int)) → (c_16 = (↑(readG 0 0 (List.take v_4.snd.fst (List.drop 0 v_4.snd.snd))).snd.snd : Int)) → (inK .u64 a_14) → (0 ≤ b_15 ∧ b_15 ≤ 10) → (c_16 = 0 ∨ c_16 = 8) → ∀ (n23 : Int), (n23 = (↑v_4.snd.fst : Int)) → ∀ (n25 : Int), (n25 = IntKind.i64.wrap (n23 - b_15)) → ∀ (n27 : Int), (n27 = IntKind.u64.wrap n25) → br (bif bif bif c_16 != 0 then true else decide (a_14 < 1) then true else decide (a_14 > n27) then true else decide (a_11 ≥ 4611686018427387904)) ((k (.tup []) [some (.cells [.int .i64 0, .int .u8 0, .nilsl, .row 6 1 0 n, .bool false]), some (.row 6 bl)] [])) ((0 ≤ b_15) ∧ (b_15 ≤ (↑v_4.snd.fst : Int)) ∧ (0 ≤ a_14) ∧ (a_14 ≤ (↑(v_4.snd.fst - b_15.toNat) : Int)) ∧ ((List.take a_14.toNat (List.drop (0 + b_15.toNat) v_4.snd.snd)).length ≤ 1000000) ∧ ∀ (a_29 : Int), ∀ (b_30 : Int), ∀ (c_31 : Int), (a_29 = (↑(readG 0 0 (List.take a_14.toNat (List.drop (0 + b_15.toNat) v_4.snd.snd))).fst : Int)) → (b_30 = (↑(readG 0 0 (List.take a_14.toNat (List.drop (0 + b_15.toNat) v_4.snd.snd))).snd.fst : Int)) → (c_31 = (↑(readG 0 0 (List.take a_14.toNat (List.drop (0 + b_15.toNat) v_4.snd.snd))).snd.snd : Int)) → (inK .u64 a_29) → (0 ≤ b_30 ∧ b_30 ≤ 10) → (c_31 = 0 ∨ c_31 = 8) → br (bif c_31 != 0 then true else decide (a_29 > 3)) ((k (.tup []) [some (.cells [.int .i64 0, .int .u8 0, .nilsl, .row 6 1 0 n, .bool false]), some (.row 6 bl)] [])) ((0 ≤ b_30) ∧ (b_30 ≤ (↑a_14.toNat : Int)) ∧ ((List.take (a_14.toNat - b_30.toNat) (List.drop (0 + b_15.toNat + b_30.toNat) v_4.snd.snd)).length ≤ 1000000) ∧ ∀ (e_38 : Int), ∀ (l_39 : List Plan), (St.PR (List.take (a_14.toNat - b_30.toNat) (List.drop (0 + b_15.toNat + b_30.toNat) v_4.snd.snd)) e_38 l_39) → (e_38 = 0 ∨ e_38 = 8) → (l_39.length ≤ 8) → br (e_38 != 0) ((k (.tup []) [some (.cells [.int .i64 0, .int .u8 0, .nilsl, .row 6 1 0 n, .bool false]), some (.row 6 bl)] [])) (∀ (n43 : Int), (n43 = IntKind.i64.wrap a_11) → (inK .i64 n43) → ∀ (n46 : Int), (n46 = IntKind.u8.wrap a_29) → (inK .u8 n46) → ∀ (n49 : Int), (n49 = (↑n : Int)) → (inK .i64 n49) → (((-9223372036854775808 ≤ n43) ∧ (n43 ≤ 9223372036854775807)) ∧ (0 ≤ n46) ∧ (n46 ≤ 255)) ∧ ∀ (e_52 : Int), ∀ (bl_53 : List (List UInt8)), (e_52 = blkE n43 n46 l_39 n49) → (bl_53 = blkO n43 n46 l_39 n49) → (0 ≤ e_52 ∧ e_52 ≤ 190) → ((e_52 = 0) → (bl_53.length = n49.toNat)) → br (e_52 != 0) ((k (.tup []) [some (.cells [.int .i64 0, .int .u8 0, .nilsl, .row 6 1 0 n, .bool false]), some (.row 6 bl)] [])) (∀ (n58 : Int), (n58 = (↑bl_53.length : Int)) → (inK .i64 n58) → (∃ (v : Nat × List (List UInt8) × Int × Int × List Plan), (bl_53 = v.snd.fst) ∧ (n58 = (↑v.snd.fst.length : Int)) ∧ ((0 : Int) = (↑v.fst : Int)) ∧ ((0 : Int) = (0 : Int)) ∧ ((0 : Int) = (0 : Int)) ∧ (0 = 0) ∧ (n = n) ∧ (false = false) ∧ (bl = bl) ∧ (n43 = v.snd.snd.fst) ∧ (n46 = v.snd.snd.snd.fst) ∧ (l_39 = v.snd.snd.snd.snd) ∧ (v.fst ≤ bl.length) ∧ ((1 ≤ bl.length) ∧ (bl.length ≤ 32)) ∧ (n = bl.length) ∧ (v.snd.fst.length = bl.length) ∧ ((0 ≤ v.snd.snd.fst) ∧ (v.snd.snd.fst < 4611686018427387904)) ∧ ((0 ≤ v.snd.snd.snd.fst) ∧ (v.snd.snd.snd.fst ≤ 3)) ∧ (AgI bl v.snd.fst v.snd.snd.fst v.snd.snd.snd.fst v.snd.snd.snd.snd v.fst)) ∧ ∀ (v_61 : Nat × List (List UInt8) × Int × Int × List Plan), (v_61.fst ≤ bl.length ∧ (1 ≤ bl.length ∧ bl.length ≤ 32) ∧ n = bl.length ∧ v_61.snd.fst.length = bl.length ∧ (0 ≤ v_61.snd.snd.fst ∧ v_61.snd.snd.fst < 4611686018427387904) ∧ (0 ≤ v_61.snd.snd.snd.fst ∧ v_61.snd.snd.snd.fst ≤ 3) ∧ AgI bl v_61.snd.fst v_61.snd.snd.fst v_61.snd.snd.snd.fst v_61.snd.snd.snd.snd v_61.fst) → br (decide ((↑v_61.fst : Int) < (↑v_61.snd.fst.length : Int))) (((0 : Int) ≤ (↑v_61.fst : Int)) ∧ ((↑v_61.fst : Int) < (↑v_61.snd.fst.length : Int)) ∧ ((0 : Int) ≤ (↑v_61.fst : Int)) ∧ ((↑v_61.fst : Int) < (↑n : Int)) ∧ (0 + (↑v_61.fst : Int).toNat < bl.length) ∧ ∀ (r_63 : Bool), (r_63 = true ↔ v_61.snd.fst.getD (↑v_61.fst : Int).toNat (dflt 6) = bl.getD (0 + (↑v_61.fst : Int).toNat) (dflt 6)) → br (!r_63) ((k (.tup []) [some (.cells [.int .i64 0, .int .u8 0, .nilsl, .row 6 1 0 n, .bool false]), some (.row 6 bl)] [])) (∀ (n65 : Int), (n65 = IntKind.i64.wrap ((↑v_61.fst : Int) + (1 : Int))) → (inK .i64 n65) → ∃ (v' : Nat × List (List UInt8) × Int × Int × List Plan), (v_61.snd.fst = v'.snd.fst) ∧ ((↑v_61.snd.fst.length : Int) = (↑v'.snd.fst.length : Int)) ∧ (n65 = (↑v'.fst : Int)) ∧ ((0 : Int) = (0 : Int)) ∧ ((0 : Int) = (0 : Int)) ∧ (0 = 0) ∧ (n = n) ∧ (false = false) ∧ (bl = bl) ∧ (v_61.snd.snd.fst = v'.snd.snd.fst) ∧ (v_61.snd.snd.snd.fst = v'.snd.snd.snd.fst) ∧ (v_61.snd.snd.snd.snd = v'.snd.snd.snd.snd) ∧ ((v'.fst ≤ bl.length) ∧ ((1 ≤ bl.length) ∧ (bl.length ≤ 32)) ∧ (n = bl.length) ∧ (v'.snd.fst.length = bl.length) ∧ ((0 ≤ v'.snd.snd.fst) ∧ (v'.snd.snd.fst < (4611686018427387904 : Int))) ∧ ((0 ≤ v'.snd.snd.snd.fst) ∧ (v'.snd.snd.snd.fst ≤ (3 : Int))) ∧ (AgI bl v'.snd.fst v'.snd.snd.fst v'.snd.snd.snd.fst v'.snd.snd.snd.snd v'.fst)) ∧ (bl.length - v'.fst < bl.length - v_61.fst))) ((k (.tup []) [some (.cells [.int .i64 v_61.snd.snd.fst, .int .u8 v_61.snd.snd.snd.fst, .sl 10 v_61.snd.snd.snd.snd, .row 6 1 0 n, .bool true]), some (.row 6 bl)] []))))))) := by
 intro n1 q1 ⟨l1, u1⟩
 refine ⟨?_, ?_⟩
 ·
  refine ⟨(Int.toNat (0 : Int), (0 : Nat), []), rfl, rfl, rfl, rfl, by show n1 = (↑n : Int); assumption, by show (0 : Int) = (↑(Int.toNat (0 : Int)) : Int); omega, rfl, rfl, rfl, rfl, rfl, rfl, rfl, by show Int.toNat (0 : Int) ≤ bl.length; omega, ?_⟩
  refine ⟨?_, ?_⟩
  ·
   have h1 : (1 : Nat) ≤ bl.length := by
    exact hb.1.n.1
   refine ⟨h1, ?_⟩
   exact hb.1.n.2
  refine ⟨by show n = bl.length; omega, by show (0 : Nat) = (48 : Nat) * Int.toNat (0 : Int); omega, rfl, ?_⟩
  exact mid_0 bl
 intro v_4 h2
 refine brd (fun c3 => ?_) (fun c3 => ?_)
 ·
  refine ⟨by first | omega | (dsimp only; omega), by assumption, by first | omega | (dsimp only; omega), by first | omega | (dsimp only; omega), ?_⟩
  have h4 : (8 : Int) ≤ (↑(bl.getD ((0 : Nat) + (↑v_4.fst : Int).toNat) (dflt (6 : Nat))).length : Int) := by
   have e1 : (bl.getD (0 + (v_4.fst : Int).toNat) (dflt 6)).length = 64 := hb.1.get (by omega)
   omega
  refine ⟨h4, by first | omega | (dsimp only; omega), ?_⟩
  have h5 : (48 : Int) ≤ (↑(List.drop (Int.toNat (8 : Int)) (bl.getD ((0 : Nat) + (↑v_4.fst : Int).toNat) (dflt (6 : Nat)))).length : Int) := by
   have e1 : (bl.getD (0 + (v_4.fst : Int).toNat) (dflt 6)).length = 64 := hb.1.get (by omega)
   rw [List.length_drop]
   omega
  refine ⟨h5, ?_⟩
  have h6 : (v_4.snd.fst + (List.take (Int.toNat (48 : Int)) (List.drop (Int.toNat (8 : Int)) (bl.getD ((0 : Nat) + (↑v_4.fst : Int).toNat) (dflt (6 : Nat))))).length) * (1 : Nat) ≤ (140737488355328 : Nat) := by
   have e1 : (bl.getD (0 + (v_4.fst : Int).toNat) (dflt 6)).length = 64 := hb.1.get (by omega)
   simp only [List.length_drop, List.length_take]
   omega
  refine ⟨h6, ?_⟩
  intro z6 qz6 n8 q8
  first | (rw [wrI64] at q8; rotate_left 1; · omega) | rw [IntKind.wrap_i64] at q8
  intro ⟨l8, u8⟩
  refine ⟨(n8.toNat, v_4.snd.fst + (List.take (Int.toNat (48 : Int)) (List.drop (Int.toNat (8 : Int)) (bl.getD ((0 : Nat) + (↑v_4.fst : Int).toNat) (dflt (6 : Nat))))).length, z6), rfl, rfl, rfl, rfl, rfl, by show n8 = (↑n8.toNat : Int); omega, rfl, rfl, rfl, rfl, rfl, rfl, rfl, ?_⟩
  refine ⟨?_, ?_⟩
  ·
   refine ⟨by show n8.toNat ≤ bl.length; omega, by first | omega | (dsimp only; omega), by show n = bl.length; omega, ?_⟩
   have h7 : v_4.snd.fst + (List.take (Int.toNat (48 : Int)) (List.drop (Int.toNat (8 : Int)) (bl.getD ((0 : Nat) + (↑v_4.fst : Int).toNat) (dflt (6 : Nat))))).length = (48 : Nat) * n8.toNat := by
    have e1 : (bl.getD (0 + (v_4.fst : Int).toNat) (dflt 6)).length = 64 := hb.1.get (by omega)
    simp only [List.length_drop, List.length_take]
    omega
   refine ⟨h7, ?_⟩
   have h8 : z6.length = v_4.snd.fst + (List.take (Int.toNat (48 : Int)) (List.drop (Int.toNat (8 : Int)) (bl.getD ((0 : Nat) + (↑v_4.fst : Int).toNat) (dflt (6 : Nat))))).length := by
    rw [qz6, List.length_append, List.length_take]
    omega
   refine ⟨h8, ?_⟩
   rw [show n8.toNat = v_4.fst + 1 by omega]
   refine mid_step h2.2.2.2.2.2 (by omega) h2.2.2.2.2.1 ?_
   rw [qz6, Nat.zero_add, Int.toNat_natCast]
   rfl
  exact by show bl.length - n8.toNat < bl.length - v_4.fst; omega
 refine ⟨by first | omega | (dsimp only; omega), by first | omega | (dsimp only; omega), by first | omega | (dsimp only; omega), by first | omega | (dsimp only; omega), ?_⟩
 have h9 : (8 : Int) ≤ (↑(bl.getD ((0 : Nat) + Int.toNat (0 : Int)) (dflt (6 : Nat))).length : Int) := by
  have e1 : (bl.getD (0 + Int.toNat 0) (dflt 6)).length = 64 := hb.1.get (i := 0) (by have := hb.1.n; omega)
  omega
 refine ⟨h9, ?_⟩
 intro a_11 h10 ⟨a11, b11⟩
 have h12 : (List.take v_4.snd.fst (List.drop (0 : Nat) v_4.snd.snd)).length ≤ (1000000 : Nat) := by
  simp only [List.length_drop, List.length_take]
  omega
 refine ⟨h12, ?_⟩
 intro a_14 b_15 c_16 h13 h14 h15 ⟨a16, b16⟩ ⟨a17, b17⟩ h18 n23 q23 n25 q25
 first | (rw [wrI64] at q25; rotate_left 1; · omega) | rw [IntKind.wrap_i64] at q25
 intro n27 q27
 first | (rw [wrU64] at q27; rotate_left 1; · omega) | rw [IntKind.wrap_u64] at q27
 refine br_intro (fun c19 => ?_) (fun c19 => ?_)
 ·
  simp at c19
  have e0 : List.take v_4.snd.fst (List.drop 0 v_4.snd.snd) = v_4.snd.snd := by rw [List.drop_zero, ← h2.2.2.2.2.1, List.take_length]
  rw [e0] at h13 h14 h15
  have hx : v_4.snd.snd = midL bl := mid_all h2.2.2.2.2.2 (by omega)
  have hl : v_4.snd.snd.length = 48 * bl.length := by omega
  rcases Classical.em (4611686018427387904 ≤ a_11) with c | c
  ·
   exact hk.1 (kf_g (g := a_11) ⟨h10⟩ c)
  exact hk.1 (kf_1 hx h13 h14 h15 (by omega))
 simp at c19
 refine ⟨by assumption, by first | omega | (dsimp only; omega), by assumption, by first | omega | (dsimp only; omega), ?_⟩
 have h20 : (List.take a_14.toNat (List.drop ((0 : Nat) + b_15.toNat) v_4.snd.snd)).length ≤ (1000000 : Nat) := by
  simp only [List.length_drop, List.length_take]
  omega
 refine ⟨h20, ?_⟩
 intro a_29 b_30 c_31 h21 h22 h23 ⟨a24, b24⟩ ⟨a25, b25⟩ h26
 refine br_intro (fun c27 => ?_) (fun c27 => ?_)
 ·
  simp at c27
  have e0 : List.take v_4.snd.fst (List.drop 0 v_4.snd.snd) = v_4.snd.snd := by rw [List.drop_zero, ← h2.2.2.2.2.1, List.take_length]
  rw [e0] at h13 h14 h15
  have hx : v_4.snd.snd = midL bl := mid_all h2.2.2.2.2.2 (by omega)
  have hl : v_4.snd.snd.length = 48 * bl.length := by omega
  have hy : List.take a_14.toNat (List.drop (0 + b_15.toNat) v_4.snd.snd) = inL v_4.snd.snd := in_is h13 h14 (by rw [Nat.zero_add])
  exact hk.1 (kf_2 hx hy h21 h23 (by omega))
 simp at c27
 refine ⟨by assumption, ?_⟩
 have h28 : b_30 ≤ (↑a_14.toNat : Int) := by
  have r := rd_le h22 h23 (by omega)
  simp only [List.length_take, List.length_drop] at r
  omega
 refine ⟨h28, ?_⟩
 have h29 : (List.take (a_14.toNat - b_30.toNat) (List.drop ((0 : Nat) + b_15.toNat + b_30.toNat) v_4.snd.snd)).length ≤ (1000000 : Nat) := by
  simp only [List.length_drop, List.length_take]
  omega
 refine ⟨h29, ?_⟩
 intro e_38 l_39 h30 h31 h32
 refine br_intro (fun c33 => ?_) (fun c33 => ?_)
 ·
  simp at c33
  have e0 : List.take v_4.snd.fst (List.drop 0 v_4.snd.snd) = v_4.snd.snd := by rw [List.drop_zero, ← h2.2.2.2.2.1, List.take_length]
  rw [e0] at h13 h14 h15
  have hx : v_4.snd.snd = midL bl := mid_all h2.2.2.2.2.2 (by omega)
  have hl : v_4.snd.snd.length = 48 * bl.length := by omega
  have hy : List.take a_14.toNat (List.drop (0 + b_15.toNat) v_4.snd.snd) = inL v_4.snd.snd := in_is h13 h14 (by rw [Nat.zero_add])
  have hu : List.take (a_14.toNat - b_30.toNat) (List.drop (0 + b_15.toNat + b_30.toNat) v_4.snd.snd) = (List.take a_14.toNat (List.drop (0 + b_15.toNat) v_4.snd.snd)).drop b_30.toNat := by rw [List.drop_take, List.drop_drop]
  exact hk.1 (kf_3 hx hy h22 hu h30 c33)
 simp at c33
 intro n43 q43
 first | (rw [wrI64] at q43; rotate_left 1; · omega) | rw [IntKind.wrap_i64] at q43
 intro ⟨l43, u43⟩ n46 q46
 first | (rw [wrU8] at q46; rotate_left 1; · omega) | rw [IntKind.wrap_u8] at q46
 intro ⟨l46, u46⟩ n49 q49 ⟨l49, u49⟩
 refine ⟨?_, ?_⟩
 ·
  refine ⟨by exact ⟨by assumption, by assumption⟩, by assumption, ?_⟩
  exact by assumption
 intro e_52 bl_53 h34 h35 ⟨a36, b36⟩ h37
 refine br_intro (fun c38 => ?_) (fun c38 => ?_)
 ·
  simp at c38
  have e0 : List.take v_4.snd.fst (List.drop 0 v_4.snd.snd) = v_4.snd.snd := by rw [List.drop_zero, ← h2.2.2.2.2.1, List.take_length]
  rw [e0] at h13 h14 h15
  have hx : v_4.snd.snd = midL bl := mid_all h2.2.2.2.2.2 (by omega)
  have hl : v_4.snd.snd.length = 48 * bl.length := by omega
  have hy : List.take a_14.toNat (List.drop (0 + b_15.toNat) v_4.snd.snd) = inL v_4.snd.snd := in_is h13 h14 (by rw [Nat.zero_add])
  have hu : List.take (a_14.toNat - b_30.toNat) (List.drop (0 + b_15.toNat + b_30.toNat) v_4.snd.snd) = (List.take a_14.toNat (List.drop (0 + b_15.toNat) v_4.snd.snd)).drop b_30.toNat := by rw [List.drop_take, List.drop_drop]
  rw [c33] at h30
  have g1 : GvI bl n43 := ⟨by rw [show n43 = a_11 by omega]; exact h10⟩
  have D := dc_of g1 hx hy h21 h22 hu h30
  rw [show a_29 = n46 by omega] at D
  rw [q49, hb.2] at h34 h35
  exact hk.1 (kf_4 D h34 c38)
 simp at c38
 intro n58 q58 ⟨l58, u58⟩
 refine ⟨?_, ?_⟩
 ·
  refine ⟨(Int.toNat (0 : Int), bl_53, n43, n46, l_39), rfl, by show n58 = (↑bl_53.length : Int); assumption, by show (0 : Int) = (↑(Int.toNat (0 : Int)) : Int); omega, rfl, rfl, rfl, rfl, rfl, rfl, rfl, rfl, rfl, by show Int.toNat (0 : Int) ≤ bl.length; omega, by first | omega | (dsimp only; omega), by show n = bl.length; omega, by show bl_53.length = bl.length; omega, by first | omega | (dsimp only; omega), by first | omega | (dsimp only; omega), ?_⟩
  have e0 : List.take v_4.snd.fst (List.drop 0 v_4.snd.snd) = v_4.snd.snd := by rw [List.drop_zero, ← h2.2.2.2.2.1, List.take_length]
  rw [e0] at h13 h14 h15
  have hx : v_4.snd.snd = midL bl := mid_all h2.2.2.2.2.2 (by omega)
  have hl : v_4.snd.snd.length = 48 * bl.length := by omega
  have hy : List.take a_14.toNat (List.drop (0 + b_15.toNat) v_4.snd.snd) = inL v_4.snd.snd := in_is h13 h14 (by rw [Nat.zero_add])
  have hu : List.take (a_14.toNat - b_30.toNat) (List.drop (0 + b_15.toNat + b_30.toNat) v_4.snd.snd) = (List.take a_14.toNat (List.drop (0 + b_15.toNat) v_4.snd.snd)).drop b_30.toNat := by rw [List.drop_take, List.drop_drop]
  rw [c33] at h30
  have g1 : GvI bl n43 := ⟨by rw [show n43 = a_11 by omega]; exact h10⟩
  have D := dc_of g1 hx hy h21 h22 hu h30
  rw [show a_29 = n46 by omega] at D
  rw [q49, hb.2] at h34 h35
  exact ag_0 D h34 c38 h35
 intro v_61 h39
 refine brd (fun c40 => ?_) (fun c40 => ?_)
 ·
  refine ⟨by first | omega | (dsimp only; omega), by assumption, by first | omega | (dsimp only; omega), by first | omega | (dsimp only; omega), by first | omega | (dsimp only; omega), ?_⟩
  intro r_63 h41
  refine br_intro (fun c42 => ?_) (fun c42 => ?_)
  ·
   simp at c42
   exact hk.1 (ag_bad h39.2.2.2.2.2.2 (i := v_61.fst) (fun e => by rw [h41.2 (by rw [Nat.zero_add, Int.toNat_natCast]; exact e)] at c42; cases c42))
  simp at c42
  intro n65 q65
  first | (rw [wrI64] at q65; rotate_left 1; · omega) | rw [IntKind.wrap_i64] at q65
  intro ⟨l65, u65⟩
  refine ⟨(n65.toNat, v_61.snd.fst, v_61.snd.snd.fst, v_61.snd.snd.snd.fst, v_61.snd.snd.snd.snd), rfl, rfl, by show n65 = (↑n65.toNat : Int); omega, rfl, rfl, rfl, rfl, rfl, rfl, rfl, rfl, rfl, ?_⟩
  refine ⟨?_, ?_⟩
  ·
   refine ⟨by show n65.toNat ≤ bl.length; omega, by first | omega | (dsimp only; omega), by show n = bl.length; omega, by show v_61.snd.fst.length = bl.length; omega, by first | omega | (dsimp only; omega), by first | omega | (dsimp only; omega), ?_⟩
   rw [show n65.toNat = v_61.fst + 1 by omega]
   rw [Nat.zero_add, Int.toNat_natCast] at h41
   exact ag_step h39.2.2.2.2.2.2 (by omega) h39.2.2.2.1 (h41.1 c42)
  exact by show bl.length - n65.toNat < bl.length - v_61.fst; omega
 exact hk.2 _ _ _ (ag_end h39.2.2.2.2.2.2 (by omega) (by omega) h39.2.2.2.1)
theorem readz_ok : Holds Try.prog 66 readzS := by
  refine fn_soundB (env := mkEnv F8) (tab_ok F8_ok) Try.func66 Try.call66 (fun args B k h => ?_) (by decide)
  unfold readzS at h
  dsimp only at h
  split at h
  · rename_i n bl
    exact ⟨by kernel_rfl, readzLoops bl n, fun _ _ => none, .cast (by kernel_rfl) (readz_vc n bl h.1 k h.2)⟩
  · exact h.elim
set_option maxHeartbeats 2000000 in
theorem ahead_vc (g0 : Int) (m0 : Int) (p0 : List Plan) (b0 : List (List UInt8)) (h0 : Bool) (g1 : Int) (m1 : Int) (p1 : List Plan) (b1 : List (List UInt8)) (h1 : Bool) (k : AV → List (Option Blk) → List Blk → Prop) (hk : ∀ (r : Bool), (r = true ↔ h0 = true ∧ ¬(h1 = true ∧ g0 < g1)) → k (.bool r) [some (.cells [.int .i64 g0, .int .u8 m0, .sl 10 p0, .sl 6 b0, .bool h0]), some (.cells [.int .i64 g1, .int .u8 m1, .sl 10 p1, .sl 6 b1, .bool h1])] []) : ∀ (n1 : Int), (n1 = g1) → ∀ (n3 : Int), (n3 = g0) → (k (.bool (bif h0 then !bif h1 then decide (n1 > n3) else false else false)) [some (.cells [.int .i64 g0, .int .u8 m0, .sl 10 p0, .sl 6 b0, .bool h0]), some (.cells [.int .i64 g1, .int .u8 m1, .sl 10 p1, .sl 6 b1, .bool h1])] []) := by
 intro n1 q1 n3 q3
 refine hk _ ?_
 cases h0 <;> cases h1 <;> simp <;> omega
theorem ahead_ok : Holds Try.prog 67 aheadS := by
  refine fn_soundB (env := mkEnv F8) (tab_ok F8_ok) Try.func67 Try.call67 (fun args B k h => ?_) (by decide)
  unfold aheadS at h
  dsimp only at h
  split at h
  · rename_i g0 m0 p0 b0 h0 g1 m1 p1 b1 h1
    exact ⟨by kernel_rfl, fun _ _ => none, fun _ _ => none, .cast (by kernel_rfl) (ahead_vc g0 m0 p0 b0 h0 g1 m1 p1 b1 h1 k h)⟩
  · exact h.elim
theorem F9_ok : TabOk Try.prog F9 := ⟨ahead_ok, readz_ok, many_ok, breadU_ok, trivial⟩
set_option maxHeartbeats 2000000 in
theorem counts_vc (g0 : Int) (m0 : Int) (p0 : List Plan) (b0 : List (List UInt8)) (h0 : Bool) (g1 : Int) (m1 : Int) (p1 : List Plan) (b1 : List (List UInt8)) (h1 : Bool) (k : AV → List (Option Blk) → List Blk → Prop) (hk : ∀ (c : Int), c = cnt h0 g0 h1 g1 → -1 ≤ c ∧ c ≤ 1 → k (.int .i64 c) [some (.cells [.int .i64 g0, .int .u8 m0, .sl 10 p0, .sl 6 b0, .bool h0]), some (.cells [.int .i64 g1, .int .u8 m1, .sl 10 p1, .sl 6 b1, .bool h1])] []) : ((0 : Int) ≤ (0 : Int)) ∧ ((0 : Int) < (↑(2 : Nat) : Int)) ∧ ((0 : Int) ≤ (1 : Int)) ∧ ((1 : Int) < (↑(2 : Nat) : Int)) ∧ ∀ (r_1 : Bool), (r_1 = true ↔ h0 = true ∧ ¬(h1 = true ∧ g0 < g1)) → br (r_1) ((k (.int .i64 0) [some (.cells [.int .i64 g0, .int .u8 m0, .sl 10 p0, .sl 6 b0, .bool h0]), some (.cells [.int .i64 g1, .int .u8 m1, .sl 10 p1, .sl 6 b1, .bool h1])] [])) (((0 : Int) ≤ (1 : Int)) ∧ ((1 : Int) < (↑(2 : Nat) : Int)) ∧ br (h1) ((k (.int .i64 1) [some (.cells [.int .i64 g0, .int .u8 m0, .sl 10 p0, .sl 6 b0, .bool h0]), some (.cells [.int .i64 g1, .int .u8 m1, .sl 10 p1, .sl 6 b1, .bool h1])] [])) ((k (.int .i64 (-1 : Int)) [some (.cells [.int .i64 g0, .int .u8 m0, .sl 10 p0, .sl 6 b0, .bool h0]), some (.cells [.int .i64 g1, .int .u8 m1, .sl 10 p1, .sl 6 b1, .bool h1])] []))) := by
 refine ⟨by first | omega | (dsimp only; omega), by first | omega | (dsimp only; omega), by first | omega | (dsimp only; omega), by first | omega | (dsimp only; omega), ?_⟩
 intro r_1 h1
 refine br_intro (fun c2 => ?_) (fun c2 => ?_)
 ·
  have R := h1.1 (by assumption)
  exact hk _ (by unfold cnt; rw [if_pos R]) (by omega)
 refine ⟨by first | omega | (dsimp only; omega), by first | omega | (dsimp only; omega), ?_⟩
 refine br_intro (fun c3 => ?_) (fun c3 => ?_)
 ·
  have hr : r_1 = false := by assumption
  have R := mt h1.2 (by rw [hr]; decide)
  exact hk _ (by unfold cnt; rw [if_neg R, if_pos (by assumption)]) (by omega)
 have hr : r_1 = false := by assumption
 have R := mt h1.2 (by rw [hr]; decide)
 exact hk _ (by unfold cnt; rw [if_neg R, if_neg (Bool.eq_false_iff.mp (by assumption))]) (by omega)
theorem counts_ok : Holds Try.prog 44 countsS := by
  refine fn_soundB (env := mkEnv F9) (tab_ok F9_ok) Try.func44 Try.call44 (fun args B k h => ?_) (by decide)
  unfold countsS at h
  dsimp only at h
  split at h
  · rename_i g0 m0 p0 b0 h0 g1 m1 p1 b1 h1
    exact ⟨by kernel_rfl, fun _ _ => none, fun _ _ => none, .cast (by kernel_rfl) (counts_vc g0 m0 p0 b0 h0 g1 m1 p1 b1 h1 k h)⟩
  · exact h.elim
set_option maxHeartbeats 2000000 in
theorem nextz_vc (g : Int) (g0 : Int) (m0 : Int) (p0 : List Plan) (bl : List (List UInt8)) (h0 : Bool) (hb : B64 bl ∧ 0 ≤ g ∧ g ≤ 4611686018427387903) (k : AV → List (Option Blk) → List Blk → Prop) (hk : ∀ (r : Int), Nx g bl r → 1 ≤ r ∧ r ≤ 4611686018427387936 → k (.int .i64 r) [some (.cells [.int .i64 g0, .int .u8 m0, .sl 10 p0, .sl 6 bl, .bool h0])] []) : ∀ (n1 : Int), (n1 = (↑bl.length : Int)) → (inK .i64 n1) → (∃ (v : Nat × Int), (g = v.snd) ∧ (bl = bl) ∧ (n1 = (↑bl.length : Int)) ∧ ((0 : Int) = (↑v.fst : Int)) ∧ (g0 = g0) ∧ (m0 = m0) ∧ (p0 = p0) ∧ (bl = bl) ∧ (h0 = h0) ∧ (v.fst ≤ bl.length) ∧ ((1 ≤ bl.length) ∧ (bl.length ≤ 32)) ∧ ((0 ≤ v.snd) ∧ (v.snd ≤ 4611686018427387903)) ∧ (MxI g bl v.fst v.snd)) ∧ ∀ (v_4 : Nat × Int), (v_4.fst ≤ bl.length ∧ (1 ≤ bl.length ∧ bl.length ≤ 32) ∧ (0 ≤ v_4.snd ∧ v_4.snd ≤ 4611686018427387903) ∧ MxI g bl v_4.fst v_4.snd) → br (decide ((↑v_4.fst : Int) < (↑bl.length : Int))) (((0 : Int) ≤ (↑v_4.fst : Int)) ∧ ((↑v_4.fst : Int) < (↑bl.length : Int)) ∧ ((0 : Int) ≤ (8 : Int)) ∧ ((8 : Int) ≤ (↑(bl.getD (↑v_4.fst : Int).toNat (dflt 6)).length : Int)) ∧ ((0 : Int) ≤ (56 : Int)) ∧ ((56 : Int) ≤ (↑(bl.getD (↑v_4.fst : Int).toNat (dflt 6)).length : Int)) ∧ ∀ (a_6 : Int), (a_6 = gV (List.take (Int.toNat (8 : Int)) (bl.getD (↑v_4.fst : Int).toNat (dflt 6)))) → (inK .u64 a_6) → ∀ (a_9 : Int), (a_9 = gV (List.drop (Int.toNat (56 : Int)) (bl.getD (↑v_4.fst : Int).toNat (dflt 6)))) → (inK .u64 a_9) → ∀ (n12 : Int), (n12 = (↑(2 : Nat) : Int)) → (inK .i64 n12) → (∃ (v : Nat × Int × List UInt64), (v_4.snd = v.snd.fst) ∧ (bl = bl) ∧ ((↑bl.length : Int) = (↑bl.length : Int)) ∧ ((↑v_4.fst : Int) = (↑v_4.fst : Int)) ∧ (List.take 2 (List.drop 0 [UInt64.ofNat a_6.toNat, UInt64.ofNat a_9.toNat]) = v.snd.snd) ∧ (n12 = 2) ∧ ((0 : Int) = (↑v.fst : Int)) ∧ (g0 = g0) ∧ (m0 = m0) ∧ (p0 = p0) ∧ (bl = bl) ∧ (h0 = h0) ∧ (v.fst ≤ 2) ∧ (v_4.fst < bl.length) ∧ ((1 ≤ bl.length) ∧ (bl.length ≤ 32)) ∧ ((0 ≤ v.snd.fst) ∧ (v.snd.fst ≤ 4611686018427387903)) ∧ (v.snd.snd.length = 2) ∧ (MxJ g bl v_4.fst v.snd.snd v.fst v.snd.fst)) ∧ ∀ (v_15 : Nat × Int × List UInt64), (v_15.fst ≤ 2 ∧ v_4.fst < bl.length ∧ (1 ≤ bl.length ∧ bl.length ≤ 32) ∧ (0 ≤ v_15.snd.fst ∧ v_15.snd.fst ≤ 4611686018427387903) ∧ v_15.snd.snd.length = 2 ∧ MxJ g bl v_4.fst v_15.snd.snd v_15.fst v_15.snd.fst) → br (decide ((↑v_15.fst : Int) < (2 : Int))) (((0 : Int) ≤ (↑v_15.fst : Int)) ∧ ((↑v_15.fst : Int) < (↑v_15.snd.snd.length : Int)) ∧ ∀ (n17 : Int), (n17 = (↑(v_15.snd.snd.getD (↑v_15.fst : Int).toNat (0 : UInt64)).toNat : Int)) → (inK .u64 n17) → br (decide (n17 < 4611686018427387904)) (∀ (n20 : Int), (n20 = IntKind.i64.wrap n17) → (inK .i64 n20) → ∀ (n23 : Int), (n23 = max v_15.snd.fst n20) → (inK .i64 n23) → ∀ (n26 : Int), (n26 = IntKind.i64.wrap ((↑v_15.fst : Int) + (1 : Int))) → (inK .i64 n26) → ∃ (v' : Nat × Int × List UInt64), (n23 = v'.snd.fst) ∧ (bl = bl) ∧ ((↑bl.length : Int) = (↑bl.length : Int)) ∧ ((↑v_4.fst : Int) = (↑v_4.fst : Int)) ∧ (v_15.snd.snd = v'.snd.snd) ∧ ((2 : Int) = (2 : Int)) ∧ (n26 = (↑v'.fst : Int)) ∧ (g0 = g0) ∧ (m0 = m0) ∧ (p0 = p0) ∧ (bl = bl) ∧ (h0 = h0) ∧ ((v'.fst ≤ 2) ∧ (v_4.fst < bl.length) ∧ ((1 ≤ bl.length) ∧ (bl.length ≤ 32)) ∧ ((0 ≤ v'.snd.fst) ∧ (v'.snd.fst ≤ (4611686018427387903 : Int))) ∧ (v'.snd.snd.length = 2) ∧ (MxJ g bl v_4.fst v'.snd.snd v'.fst v'.snd.fst)) ∧ (2 - v'.fst < 2 - v_15.fst)) (∀ (n29 : Int), (n29 = IntKind.i64.wrap ((↑v_15.fst : Int) + (1 : Int))) → (inK .i64 n29) → ∃ (v' : Nat × Int × List UInt64), (v_15.snd.fst = v'.snd.fst) ∧ (bl = bl) ∧ ((↑bl.length : Int) = (↑bl.length : Int)) ∧ ((↑v_4.fst : Int) = (↑v_4.fst : Int)) ∧ (v_15.snd.snd = v'.snd.snd) ∧ ((2 : Int) = (2 : Int)) ∧ (n29 = (↑v'.fst : Int)) ∧ (g0 = g0) ∧ (m0 = m0) ∧ (p0 = p0) ∧ (bl = bl) ∧ (h0 = h0) ∧ ((v'.fst ≤ 2) ∧ (v_4.fst < bl.length) ∧ ((1 ≤ bl.length) ∧ (bl.length ≤ 32)) ∧ ((0 ≤ v'.snd.fst) ∧ (v'.snd.fst ≤ (4611686018427387903 : Int))) ∧ (v'.snd.snd.length = 2) ∧ (MxJ g bl v_4.fst v'.snd.snd v'.fst v'.snd.fst)) ∧ (2 - v'.fst < 2 - v_15.fst))) (∀ (n32 : Int), (n32 = IntKind.i64.wrap ((↑v_4.fst : Int) + (1 : Int))) → (inK .i64 n32) → ∃ (v' : Nat × Int), (v_15.snd.fst = v'.snd) ∧ (bl = bl) ∧ ((↑bl.length : Int) = (↑bl.length : Int)) ∧ (n32 = (↑v'.fst : Int)) ∧ (g0 = g0) ∧ (m0 = m0) ∧ (p0 = p0) ∧ (bl = bl) ∧ (h0 = h0) ∧ ((v'.fst ≤ bl.length) ∧ ((1 ≤ bl.length) ∧ (bl.length ≤ 32)) ∧ ((0 ≤ v'.snd) ∧ (v'.snd ≤ (4611686018427387903 : Int))) ∧ (MxI g bl v'.fst v'.snd)) ∧ (bl.length - v'.fst < bl.length - v_4.fst))) (∀ (n35 : Int), (n35 = IntKind.i64.wrap (v_4.snd + 1)) → (inK .i64 n35) → (∃ (v : Int), (n35 = v) ∧ (g0 = g0) ∧ (m0 = m0) ∧ (p0 = p0) ∧ (bl = bl) ∧ (h0 = h0) ∧ ((1 ≤ bl.length) ∧ (bl.length ≤ 32)) ∧ ((1 ≤ v) ∧ (v ≤ 4611686018427387936)) ∧ ((0 ≤ mxL g bl) ∧ (mxL g bl ≤ 4611686018427387903) ∧ (mxL g bl < v) ∧ (v ≤ mxL g bl + 33)) ∧ (Sx g bl v)) ∧ ∀ (v_38 : Int), ((1 ≤ bl.length ∧ bl.length ≤ 32) ∧ (1 ≤ v_38 ∧ v_38 ≤ 4611686018427387936) ∧ (0 ≤ mxL g bl ∧ mxL g bl ≤ 4611686018427387903 ∧ mxL g bl < v_38 ∧ v_38 ≤ mxL g bl + 33) ∧ Sx g bl v_38) → ∀ (n40 : Int), (n40 = (↑bl.length : Int)) → (inK .i64 n40) → (∃ (v : Nat), (v_38 = (↑v_38.toNat : Int)) ∧ (bl = bl) ∧ (n40 = (↑bl.length : Int)) ∧ ((0 : Int) = (↑v : Int)) ∧ (g0 = g0) ∧ (m0 = m0) ∧ (p0 = p0) ∧ (bl = bl) ∧ (h0 = h0) ∧ (v ≤ bl.length) ∧ ((1 ≤ bl.length) ∧ (bl.length ≤ 32)) ∧ (v_38.toNat ≤ 4611686018427387936) ∧ (FrI bl v (↑v_38.toNat : Int) true)) ∧ ∀ (v_43 : Nat), (v_43 ≤ bl.length ∧ (1 ≤ bl.length ∧ bl.length ≤ 32) ∧ v_38.toNat ≤ 4611686018427387936 ∧ FrI bl v_43 (↑v_38.toNat : Int) true) → br (decide ((↑v_43 : Int) < (↑bl.length : Int))) (((0 : Int) ≤ (↑v_43 : Int)) ∧ ((↑v_43 : Int) < (↑bl.length : Int)) ∧ ((0 : Int) ≤ (56 : Int)) ∧ ((56 : Int) < (↑(bl.getD (↑v_43 : Int).toNat (dflt 6)).length : Int)) ∧ ∀ (n45 : Int), (n45 = (↑((bl.getD (↑v_43 : Int).toNat (dflt 6)).getD (Int.toNat (56 : Int)) (0 : UInt8)).toNat : Int)) → (inK .u8 n45) → ∀ (n48 : Int), (n48 = IntKind.u8.wrap (↑v_38.toNat : Int)) → (inK .u8 n48) → br (n45 == n48) (∀ (n51 : Int), (n51 = IntKind.i64.wrap ((↑v_38.toNat : Int) + (1 : Int))) → (inK .i64 n51) → ∃ (v' : Int), (n51 = v') ∧ (g0 = g0) ∧ (m0 = m0) ∧ (p0 = p0) ∧ (bl = bl) ∧ (h0 = h0) ∧ (((1 ≤ bl.length) ∧ (bl.length ≤ 32)) ∧ ((1 ≤ v') ∧ (v' ≤ (4611686018427387936 : Int))) ∧ ((0 ≤ mxL g bl) ∧ (mxL g bl ≤ 4611686018427387903) ∧ (mxL g bl < v') ∧ (v' ≤ mxL g bl + 33)) ∧ (Sx g bl v')) ∧ ((mxL g bl + 34 - v').toNat < (mxL g bl + 34 - v_38).toNat)) (∀ (n54 : Int), (n54 = IntKind.i64.wrap ((↑v_43 : Int) + (1 : Int))) → (inK .i64 n54) → ∃ (v' : Nat), ((↑v_38.toNat : Int) = (↑v_38.toNat : Int)) ∧ (bl = bl) ∧ ((↑bl.length : Int) = (↑bl.length : Int)) ∧ (n54 = (↑v' : Int)) ∧ (g0 = g0) ∧ (m0 = m0) ∧ (p0 = p0) ∧ (bl = bl) ∧ (h0 = h0) ∧ ((v' ≤ bl.length) ∧ ((1 ≤ bl.length) ∧ (bl.length ≤ 32)) ∧ (v_38.toNat ≤ 4611686018427387936) ∧ (FrI bl v' (↑v_38.toNat : Int) true)) ∧ (bl.length - v' < bl.length - v_43))) ((k (.int .i64 (↑v_38.toNat : Int)) [some (.cells [.int .i64 g0, .int .u8 m0, .sl 10 p0, .sl 6 bl, .bool h0])] []))) := by
 intro n1 q1 ⟨l1, u1⟩
 refine ⟨?_, ?_⟩
 ·
  refine ⟨(Int.toNat (0 : Int), g), rfl, rfl, by show n1 = (↑bl.length : Int); assumption, by show (0 : Int) = (↑(Int.toNat (0 : Int)) : Int); omega, rfl, rfl, rfl, rfl, rfl, by show Int.toNat (0 : Int) ≤ bl.length; omega, ?_⟩
  refine ⟨?_, ?_⟩
  ·
   have h1 : (1 : Nat) ≤ bl.length := by
    exact hb.1.n.1
   refine ⟨h1, ?_⟩
   exact hb.1.n.2
  refine ⟨by first | omega | (dsimp only; omega), ?_⟩
  exact mx_0 _ _
 intro v_4 h2
 refine brd (fun c3 => ?_) (fun c3 => ?_)
 ·
  refine ⟨by first | omega | (dsimp only; omega), by assumption, by first | omega | (dsimp only; omega), ?_⟩
  have h4 : (8 : Int) ≤ (↑(bl.getD (↑v_4.fst : Int).toNat (dflt (6 : Nat))).length : Int) := by
   have e : (bl.getD (v_4.fst : Int).toNat (dflt 6)).length = 64 := hb.1.get (by omega)
   omega
  refine ⟨h4, by first | omega | (dsimp only; omega), ?_⟩
  have h5 : (56 : Int) ≤ (↑(bl.getD (↑v_4.fst : Int).toNat (dflt (6 : Nat))).length : Int) := by
   have e : (bl.getD (v_4.fst : Int).toNat (dflt 6)).length = 64 := hb.1.get (by omega)
   omega
  refine ⟨h5, ?_⟩
  intro a_6 h6 ⟨a7, b7⟩ a_9 h8 ⟨a9, b9⟩ n12 q12 ⟨l12, u12⟩
  refine ⟨?_, ?_⟩
  ·
   refine ⟨(Int.toNat (0 : Int), v_4.snd, List.take (2 : Nat) (List.drop (0 : Nat) [UInt64.ofNat a_6.toNat, UInt64.ofNat a_9.toNat])), rfl, rfl, rfl, rfl, rfl, by show n12 = (2 : Int); assumption, by show (0 : Int) = (↑(Int.toNat (0 : Int)) : Int); omega, rfl, rfl, rfl, rfl, rfl, by show Int.toNat (0 : Int) ≤ (2 : Nat); omega, by show v_4.fst < bl.length; omega, by first | omega | (dsimp only; omega), by first | omega | (dsimp only; omega), by rfl, ?_⟩
   exact mj_0 h2.2.2.2 h6 h8 rfl
  intro v_15 h10
  refine brd (fun c11 => ?_) (fun c11 => ?_)
  ·
   refine ⟨by first | omega | (dsimp only; omega), by first | omega | (dsimp only; omega), ?_⟩
   intro n17 q17 ⟨l17, u17⟩
   refine brd (fun c12 => ?_) (fun c12 => ?_)
   ·
    intro n20 q20
    first | (rw [wrI64] at q20; rotate_left 1; · omega) | rw [IntKind.wrap_i64] at q20
    intro ⟨l20, u20⟩ n23 q23 ⟨l23, u23⟩ n26 q26
    first | (rw [wrI64] at q26; rotate_left 1; · omega) | rw [IntKind.wrap_i64] at q26
    intro ⟨l26, u26⟩
    refine ⟨(n26.toNat, n23, v_15.snd.snd), rfl, rfl, rfl, rfl, rfl, rfl, by show n26 = (↑n26.toNat : Int); omega, rfl, rfl, rfl, rfl, rfl, ?_⟩
    refine ⟨?_, ?_⟩
    ·
     refine ⟨by show n26.toNat ≤ (2 : Nat); omega, by show v_4.fst < bl.length; omega, by first | omega | (dsimp only; omega), by first | omega | (dsimp only; omega), by show v_15.snd.snd.length = (2 : Nat); omega, ?_⟩
     try dsimp only
     rw [show n26.toNat = v_15.fst + 1 by omega]
     exact mj_step (a := n17) h10.2.2.2.2.2 (by omega) q17 (by unfold mxE; rw [if_pos (by omega)]; omega)
    exact by show (2 : Nat) - n26.toNat < (2 : Nat) - v_15.fst; omega
   intro n29 q29
   first | (rw [wrI64] at q29; rotate_left 1; · omega) | rw [IntKind.wrap_i64] at q29
   intro ⟨l29, u29⟩
   refine ⟨(n29.toNat, v_15.snd.fst, v_15.snd.snd), rfl, rfl, rfl, rfl, rfl, rfl, by show n29 = (↑n29.toNat : Int); omega, rfl, rfl, rfl, rfl, rfl, ?_⟩
   refine ⟨?_, ?_⟩
   ·
    refine ⟨by show n29.toNat ≤ (2 : Nat); omega, by show v_4.fst < bl.length; omega, by first | omega | (dsimp only; omega), by first | omega | (dsimp only; omega), by show v_15.snd.snd.length = (2 : Nat); omega, ?_⟩
    try dsimp only
    rw [show n29.toNat = v_15.fst + 1 by omega]
    exact mj_step (a := n17) h10.2.2.2.2.2 (by omega) q17 (by unfold mxE; rw [if_neg (by omega)])
   exact by show (2 : Nat) - n29.toNat < (2 : Nat) - v_15.fst; omega
  intro n32 q32
  first | (rw [wrI64] at q32; rotate_left 1; · omega) | rw [IntKind.wrap_i64] at q32
  intro ⟨l32, u32⟩
  refine ⟨(n32.toNat, v_15.snd.fst), rfl, rfl, rfl, by show n32 = (↑n32.toNat : Int); omega, rfl, rfl, rfl, rfl, rfl, ?_⟩
  refine ⟨?_, ?_⟩
  ·
   refine ⟨by show n32.toNat ≤ bl.length; omega, by first | omega | (dsimp only; omega), by first | omega | (dsimp only; omega), ?_⟩
   rw [show n32.toNat = v_4.fst + 1 by omega]
   exact mj_end h10.2.2.2.2.2 (by omega) (by omega)
  exact by show bl.length - n32.toNat < bl.length - v_4.fst; omega
 intro n35 q35
 first | (rw [wrI64] at q35; rotate_left 1; · omega) | rw [IntKind.wrap_i64] at q35
 intro ⟨l35, u35⟩
 refine ⟨?_, ?_⟩
 ·
  refine ⟨n35, rfl, rfl, rfl, rfl, rfl, rfl, by first | omega | (dsimp only; omega), by first | omega | (dsimp only; omega), ?_⟩
  refine ⟨?_, ?_⟩
  ·
   have h13 : (0 : Int) ≤ mxL g bl := by
    have i := mxL_in (bl := bl) (g := g) (by omega)
    have e := mx_all h2.2.2.2 (by omega)
    omega
   refine ⟨h13, ?_⟩
   have h14 : mxL g bl ≤ (4611686018427387903 : Int) := by
    have i := mxL_in (bl := bl) (g := g) (by omega)
    have e := mx_all h2.2.2.2 (by omega)
    omega
   refine ⟨h14, ?_⟩
   have h15 : mxL g bl < n35 := by
    have i := mxL_in (bl := bl) (g := g) (by omega)
    have e := mx_all h2.2.2.2 (by omega)
    omega
   refine ⟨h15, ?_⟩
   have i := mxL_in (bl := bl) (g := g) (by omega)
   have e := mx_all h2.2.2.2 (by omega)
   omega
  have i := mxL_in (bl := bl) (g := g) (by omega)
  have e := mx_all h2.2.2.2 (by omega)
  rw [show n35 = mxL g bl + 1 by omega]
  exact sx_0 _ _
 intro v_38 h16 n40 q40 ⟨l40, u40⟩
 refine ⟨?_, ?_⟩
 ·
  refine ⟨Int.toNat (0 : Int), by show v_38 = (↑v_38.toNat : Int); omega, rfl, by show n40 = (↑bl.length : Int); assumption, by show (0 : Int) = (↑(Int.toNat (0 : Int)) : Int); omega, rfl, rfl, rfl, rfl, rfl, by show Int.toNat (0 : Int) ≤ bl.length; omega, by first | omega | (dsimp only; omega), by show v_38.toNat ≤ (4611686018427387936 : Nat); omega, ?_⟩
  exact fr_0 _ _
 intro v_43 h17
 refine brd (fun c18 => ?_) (fun c18 => ?_)
 ·
  refine ⟨by first | omega | (dsimp only; omega), by assumption, by first | omega | (dsimp only; omega), ?_⟩
  have h19 : (56 : Int) < (↑(bl.getD (↑v_43 : Int).toNat (dflt (6 : Nat))).length : Int) := by
   have e : (bl.getD (v_43 : Int).toNat (dflt 6)).length = 64 := hb.1.get (by omega)
   omega
  refine ⟨h19, ?_⟩
  intro n45 q45 ⟨l45, u45⟩ n48 q48
  first | (rw [wrU8] at q48; rotate_left 1; · omega) | rw [IntKind.wrap_u8] at q48
  intro ⟨l48, u48⟩
  refine br_intro (fun c20 => ?_) (fun c20 => ?_)
  ·
   simp at c20
   intro n51 q51
   first | (rw [wrI64] at q51; rotate_left 1; · omega) | rw [IntKind.wrap_i64] at q51
   intro ⟨l51, u51⟩
   refine ⟨n51, rfl, rfl, rfl, rfl, rfl, rfl, ?_⟩
   refine ⟨?_, ?_⟩
   ·
    refine ⟨by first | omega | (dsimp only; omega), ?_⟩
    refine ⟨?_, ?_⟩
    ·
     refine ⟨by show (1 : Int) ≤ n51; omega, ?_⟩
     have eb : n45 = (((bl.getD v_43 []).getD 56 0).toNat : Int) := q45
     have F0 : ¬ freeB bl v_38 := nf_of (i := v_43) (by omega) (by omega)
     have S1 := sx_step hb.1.n.2 h16.2.2.2 F0
     have hi := S1.hi
     omega
    refine ⟨?_, ?_⟩
    ·
     refine ⟨by show (0 : Int) ≤ mxL g bl; omega, by show mxL g bl ≤ (4611686018427387903 : Int); omega, by show mxL g bl < n51; omega, ?_⟩
     have eb : n45 = (((bl.getD v_43 []).getD 56 0).toNat : Int) := q45
     have F0 : ¬ freeB bl v_38 := nf_of (i := v_43) (by omega) (by omega)
     have S1 := sx_step hb.1.n.2 h16.2.2.2 F0
     have hi := S1.hi
     omega
    have eb : n45 = (((bl.getD v_43 []).getD 56 0).toNat : Int) := q45
    have F0 : ¬ freeB bl v_38 := nf_of (i := v_43) (by omega) (by omega)
    have S1 := sx_step hb.1.n.2 h16.2.2.2 F0
    have hi := S1.hi
    rw [show n51 = v_38 + 1 by omega]
    exact S1
   exact by show (mxL g bl + (34 : Int) - n51).toNat < (mxL g bl + (34 : Int) - v_38).toNat; omega
  simp at c20
  intro n54 q54
  first | (rw [wrI64] at q54; rotate_left 1; · omega) | rw [IntKind.wrap_i64] at q54
  intro ⟨l54, u54⟩
  refine ⟨n54.toNat, rfl, rfl, rfl, by show n54 = (↑n54.toNat : Int); omega, rfl, rfl, rfl, rfl, rfl, ?_⟩
  refine ⟨?_, ?_⟩
  ·
   refine ⟨by show n54.toNat ≤ bl.length; omega, by first | omega | (dsimp only; omega), by show v_38.toNat ≤ (4611686018427387936 : Nat); omega, ?_⟩
   have eb : n45 = (((bl.getD v_43 []).getD 56 0).toNat : Int) := q45
   rw [show n54.toNat = v_43 + 1 by omega]
   exact fr_step h17.2.2.2 (by omega) ⟨fun _ => ⟨rfl, by omega⟩, fun _ => rfl⟩
  exact by show bl.length - n54.toNat < bl.length - v_43; omega
 have ev : ((v_38.toNat : Nat) : Int) = v_38 := by omega
 have S := h16.2.2.2
 rw [← ev] at S
 exact hk _ (sx_end S ((fr_all h17.2.2.2 (by omega)).1 rfl)) (by omega)
theorem nextz_ok : Holds Try.prog 47 nextzS := by
  refine fn_soundB (env := mkEnv F8) (tab_ok F8_ok) Try.func47 Try.call47 (fun args B k h => ?_) (by decide)
  unfold nextzS at h
  dsimp only at h
  split at h
  · rename_i g g0 m0 p0 bl h0
    exact ⟨by kernel_rfl, nextzLoops g bl g0 m0 p0 h0, fun _ _ => none, .cast (by kernel_rfl) (nextz_vc g g0 m0 p0 bl h0 h.1 k h.2)⟩
  · exact h.elim
set_option maxHeartbeats 2000000 in
theorem slots_vc (d : List UInt8) (k : AV → List (Option Blk) → List Blk → Prop) (hk : (∀ (e : Int), e = askD d → e ≠ (0 : Int) → 0 ≤ e ∧ e ≤ 190 → k (.tup [.agg [.nilptr, .nilptr], .int .i64 e]) [] []) ∧ (D2 d → ∀ (h0 : Bool) (g0 m0 : Int) (p0 : List Plan) (b0 : List (List UInt8)) (h1 : Bool) (g1 m1 : Int) (p1 : List Plan) (b1 : List (List UInt8)), Sl2 d h0 g0 m0 p0 b0 h1 g1 m1 p1 b1 → (0 ≤ g0 ∧ g0 ≤ 4611686018427387903) ∧ 0 ≤ m0 ∧ m0 ≤ 3 → (0 ≤ g1 ∧ g1 ≤ 4611686018427387903) ∧ 0 ≤ m1 ∧ m1 ≤ 3 → b0.length = half d ∧ b1.length = half d → k (.tup [.agg [.ptr 0 0, .ptr 1 0], .int .i64 0]) [] [.cells [.int .i64 g0, .int .u8 m0, .sl 10 p0, .sl 6 b0, .bool h0], .cells [.int .i64 g1, .int .u8 m1, .sl 10 p1, .sl 6 b1, .bool h1]])) : ∀ (e_1 : Int), ∀ (m_2 : Int), (e_1 = chkE d) → (m_2 = if dOk d.length then (↑(d.length / 64) : Int) else (0 : Int)) → br (e_1 != 0) ((k (.tup [.agg [.nilptr, .nilptr], .int .i64 e_1]) [] [])) (br (decide (m_2 < 2)) ((k (.tup [.agg [.nilptr, .nilptr], .int .i64 190]) [] [])) ((((0 : Int) ≤ (0 : Int)) ∧ ((0 : Int) < (↑(2 : Nat) : Int)) ∧ ((2 : Int) ≠ (0 : Int)) ∧ ∀ (n5 : Int), (n5 = IntKind.i64.wrap (m_2.tdiv (2 : Int))) → (inK .i64 n5) → (∃ (v : Nat × List (List UInt8)), (m_2 = (↑(d.length / 64) : Int)) ∧ ((0 : Int) = (0 : Int)) ∧ ((0 : Int) = (0 : Int)) ∧ (n5 = (↑(half d) : Int)) ∧ ((0 : Int) = (↑v.fst : Int)) ∧ (d = d) ∧ ((0 : Int) = (0 : Int)) ∧ ((0 : Int) = (0 : Int)) ∧ (0 = 0) ∧ (0 = v.fst) ∧ (false = false) ∧ ([] = v.snd) ∧ (v.fst ≤ half d) ∧ (D2 d) ∧ ((1 ≤ half d) ∧ (half d ≤ 32)) ∧ (v.snd.length = v.fst) ∧ ((128 * half d ≤ d.length) ∧ (d.length ≤ 4096)) ∧ (SnI d (0 : Int) v.fst v.snd)) ∧ ∀ (v_8 : Nat × List (List UInt8)), (v_8.fst ≤ half d ∧ D2 d ∧ (1 ≤ half d ∧ half d ≤ 32) ∧ v_8.snd.length = v_8.fst ∧ (128 * half d ≤ d.length ∧ d.length ≤ 4096) ∧ SnI d (0 : Int) v_8.fst v_8.snd) → br (decide ((↑v_8.fst : Int) < (↑(half d) : Int))) (((2 : Int) ≠ (0 : Int)) ∧ ∀ (n10 : Int), (n10 = IntKind.i64.wrap ((↑(d.length / 64) : Int).tdiv (2 : Int))) → (inK .i64 n10) → ∀ (n13 : Int), (n13 = IntKind.i64.wrap ((0 : Int) * n10)) → (inK .i64 n13) → ∀ (n16 : Int), (n16 = IntKind.i64.wrap (n13 + (↑v_8.fst : Int))) → (inK .i64 n16) → (d.length ≤ 1000000) ∧ ∀ (e_19 : Int), ∀ (ys_20 : List UInt8), ∀ (q_21 : Nat), (e_19 = askE d n16) → (ys_20 = rdO d n16) → (ys_20.length = q_21) → ((0 : Int) ≤ (0 : Int)) ∧ ((0 : Int) < (↑(2 : Nat) : Int)) ∧ (((0 : Int) ≤ (0 : Int)) ∧ ((0 : Int) < (↑(2 : Nat) : Int)) ∧ (((v_8.fst + 1) * 24 ≤ 140737488355328) ∧ ∀ (z25 : List (List UInt8)), (z25 = List.take v_8.fst v_8.snd ++ List.take 1 (List.drop 0 [List.take q_21 (List.drop 0 ys_20)])) → ∀ (n27 : Int), (n27 = IntKind.i64.wrap ((↑v_8.fst : Int) + (1 : Int))) → (inK .i64 n27) → ∃ (v' : Nat × List (List UInt8)), ((↑(d.length / 64) : Int) = (↑(d.length / 64) : Int)) ∧ ((0 : Int) = (0 : Int)) ∧ ((0 : Int) = (0 : Int)) ∧ ((↑(half d) : Int) = (↑(half d) : Int)) ∧ (n27 = (↑v'.fst : Int)) ∧ (d = d) ∧ ((0 : Int) = (0 : Int)) ∧ ((0 : Int) = (0 : Int)) ∧ (0 = 0) ∧ (v_8.fst + 1 = v'.fst) ∧ (false = false) ∧ (z25 = v'.snd) ∧ ((v'.fst ≤ half d) ∧ (D2 d) ∧ ((1 ≤ half d) ∧ (half d ≤ 32)) ∧ (v'.snd.length = v'.fst) ∧ ((128 * half d ≤ d.length) ∧ (d.length ≤ 4096)) ∧ (SnI d (0 : Int) v'.fst v'.snd)) ∧ (half d - v'.fst < half d - v_8.fst)) ∧ (((v_8.fst + 1) * 24 ≤ 140737488355328) ∧ ∀ (z30 : List (List UInt8)), (z30 = List.take v_8.fst v_8.snd ++ List.take 1 (List.drop 0 [List.take q_21 (List.drop 0 ys_20)])) → ∀ (n32 : Int), (n32 = IntKind.i64.wrap ((↑v_8.fst : Int) + (1 : Int))) → (inK .i64 n32) → ∃ (v' : Nat × List (List UInt8)), ((↑(d.length / 64) : Int) = (↑(d.length / 64) : Int)) ∧ ((0 : Int) = (0 : Int)) ∧ ((0 : Int) = (0 : Int)) ∧ ((↑(half d) : Int) = (↑(half d) : Int)) ∧ (n32 = (↑v'.fst : Int)) ∧ (d = d) ∧ ((0 : Int) = (0 : Int)) ∧ ((0 : Int) = (0 : Int)) ∧ (0 = 0) ∧ (v_8.fst + 1 = v'.fst) ∧ (false = false) ∧ (z30 = v'.snd) ∧ ((v'.fst ≤ half d) ∧ (D2 d) ∧ ((1 ≤ half d) ∧ (half d ≤ 32)) ∧ (v'.snd.length = v'.fst) ∧ ((128 * half d ≤ d.length) ∧ (d.length ≤ 4096)) ∧ (SnI d (0 : Int) v'.fst v'.snd)) ∧ (half d - v'.fst < half d - v_8.fst)) ∧ ((v_8.fst + 1) * 24 ≤ 140737488355328) ∧ ∀ (z35 : List (List UInt8)), (z35 = List.take v_8.fst v_8.snd ++ List.take 1 (List.drop 0 [List.take q_21 (List.drop 0 ys_20)])) → ∀ (n37 : Int), (n37 = IntKind.i64.wrap ((↑v_8.fst : Int) + (1 : Int))) → (inK .i64 n37) → ∃ (v' : Nat × List (List UInt8)), ((↑(d.length / 64) : Int) = (↑(d.length / 64) : Int)) ∧ ((0 : Int) = (0 : Int)) ∧ ((0 : Int) = (0 : Int)) ∧ ((↑(half d) : Int) = (↑(half d) : Int)) ∧ (n37 = (↑v'.fst : Int)) ∧ (d = d) ∧ ((0 : Int) = (0 : Int)) ∧ ((0 : Int) = (0 : Int)) ∧ (0 = 0) ∧ (v_8.fst + 1 = v'.fst) ∧ (false = false) ∧ (z35 = v'.snd) ∧ ((v'.fst ≤ half d) ∧ (D2 d) ∧ ((1 ≤ half d) ∧ (half d ≤ 32)) ∧ (v'.snd.length = v'.fst) ∧ ((128 * half d ≤ d.length) ∧ (d.length ≤ 4096)) ∧ (SnI d (0 : Int) v'.fst v'.snd)) ∧ (half d - v'.fst < half d - v_8.fst)) ∧ (((0 : Int) ≤ (0 : Int)) ∧ ((0 : Int) < (↑(2 : Nat) : Int)) ∧ (((v_8.fst + 1) * 24 ≤ 140737488355328) ∧ ∀ (z40 : List (List UInt8)), (z40 = List.take v_8.fst v_8.snd ++ List.take 1 (List.drop 0 [List.take q_21 (List.drop 0 ys_20)])) → ∀ (n42 : Int), (n42 = IntKind.i64.wrap ((↑v_8.fst : Int) + (1 : Int))) → (inK .i64 n42) → ∃ (v' : Nat × List (List UInt8)), ((↑(d.length / 64) : Int) = (↑(d.length / 64) : Int)) ∧ ((0 : Int) = (0 : Int)) ∧ ((0 : Int) = (0 : Int)) ∧ ((↑(half d) : Int) = (↑(half d) : Int)) ∧ (n42 = (↑v'.fst : Int)) ∧ (d = d) ∧ ((0 : Int) = (0 : Int)) ∧ ((0 : Int) = (0 : Int)) ∧ (0 = 0) ∧ (v_8.fst + 1 = v'.fst) ∧ (false = false) ∧ (z40 = v'.snd) ∧ ((v'.fst ≤ half d) ∧ (D2 d) ∧ ((1 ≤ half d) ∧ (half d ≤ 32)) ∧ (v'.snd.length = v'.fst) ∧ ((128 * half d ≤ d.length) ∧ (d.length ≤ 4096)) ∧ (SnI d (0 : Int) v'.fst v'.snd)) ∧ (half d - v'.fst < half d - v_8.fst)) ∧ ((v_8.fst + 1) * 24 ≤ 140737488355328) ∧ ∀ (z45 : List (List UInt8)), (z45 = List.take v_8.fst v_8.snd ++ List.take 1 (List.drop 0 [List.take q_21 (List.drop 0 ys_20)])) → ∀ (n47 : Int), (n47 = IntKind.i64.wrap ((↑v_8.fst : Int) + (1 : Int))) → (inK .i64 n47) → ∃ (v' : Nat × List (List UInt8)), ((↑(d.length / 64) : Int) = (↑(d.length / 64) : Int)) ∧ ((0 : Int) = (0 : Int)) ∧ ((0 : Int) = (0 : Int)) ∧ ((↑(half d) : Int) = (↑(half d) : Int)) ∧ (n47 = (↑v'.fst : Int)) ∧ (d = d) ∧ ((0 : Int) = (0 : Int)) ∧ ((0 : Int) = (0 : Int)) ∧ (0 = 0) ∧ (v_8.fst + 1 = v'.fst) ∧ (false = false) ∧ (z45 = v'.snd) ∧ ((v'.fst ≤ half d) ∧ (D2 d) ∧ ((1 ≤ half d) ∧ (half d ≤ 32)) ∧ (v'.snd.length = v'.fst) ∧ ((128 * half d ≤ d.length) ∧ (d.length ≤ 4096)) ∧ (SnI d (0 : Int) v'.fst v'.snd)) ∧ (half d - v'.fst < half d - v_8.fst)) ∧ ((v_8.fst + 1) * 24 ≤ 140737488355328) ∧ ∀ (z50 : List (List UInt8)), (z50 = List.take v_8.fst v_8.snd ++ List.take 1 (List.drop 0 [List.take q_21 (List.drop 0 ys_20)])) → ((0 : Int) ≤ (0 : Int)) ∧ ((0 : Int) < (↑(2 : Nat) : Int)) ∧ ∀ (n52 : Int), (n52 = IntKind.i64.wrap ((↑v_8.fst : Int) + (1 : Int))) → (inK .i64 n52) → ∃ (v' : Nat × List (List UInt8)), ((↑(d.length / 64) : Int) = (↑(d.length / 64) : Int)) ∧ ((0 : Int) = (0 : Int)) ∧ ((0 : Int) = (0 : Int)) ∧ ((↑(half d) : Int) = (↑(half d) : Int)) ∧ (n52 = (↑v'.fst : Int)) ∧ (d = d) ∧ ((0 : Int) = (0 : Int)) ∧ ((0 : Int) = (0 : Int)) ∧ (0 = 0) ∧ (v_8.fst + 1 = v'.fst) ∧ (false = false) ∧ (z50 = v'.snd) ∧ ((v'.fst ≤ half d) ∧ (D2 d) ∧ ((1 ≤ half d) ∧ (half d ≤ 32)) ∧ (v'.snd.length = v'.fst) ∧ ((128 * half d ≤ d.length) ∧ (d.length ≤ 4096)) ∧ (SnI d (0 : Int) v'.fst v'.snd)) ∧ (half d - v'.fst < half d - v_8.fst)) (((0 : Int) ≤ (0 : Int)) ∧ ((0 : Int) < (↑(2 : Nat) : Int)) ∧ ((B64 v_8.snd) ∧ (v_8.fst = v_8.snd.length)) ∧ ((KF v_8.snd false (0 : Int) (0 : Int) []) → ∃ (v : Bool × Int × Int × List Plan × List (List UInt8)), ((↑(d.length / 64) : Int) = (↑(d.length / 64) : Int)) ∧ ((0 : Int) = (0 : Int)) ∧ (d = d) ∧ (0 = v.snd.fst) ∧ (0 = v.snd.snd.fst) ∧ (v.snd.snd.snd.fst = []) ∧ (List.take v_8.fst (List.drop 0 v_8.snd) = v.snd.snd.snd.snd) ∧ (false = v.fst) ∧ (D2 d) ∧ ((1 ≤ half d) ∧ (half d ≤ 32)) ∧ ((128 * half d ≤ d.length) ∧ (d.length ≤ 4096)) ∧ (((0 ≤ v.snd.fst) ∧ (v.snd.fst ≤ 4611686018427387903)) ∧ (0 ≤ v.snd.snd.fst) ∧ (v.snd.snd.fst ≤ 3)) ∧ (v.snd.snd.snd.snd.length = half d) ∧ (Sl1 d (0 : Int) v.fst v.snd.fst v.snd.snd.fst v.snd.snd.snd.fst v.snd.snd.snd.snd)) ∧ ∀ (g_56 : Int), ∀ (m_57 : Int), ∀ (ps_58 : List Plan), (KF v_8.snd true g_56 m_57 ps_58) → ∃ (v : Bool × Int × Int × List Plan × List (List UInt8)), ((↑(d.length / 64) : Int) = (↑(d.length / 64) : Int)) ∧ ((0 : Int) = (0 : Int)) ∧ (d = d) ∧ (g_56 = v.snd.fst) ∧ (m_57 = v.snd.snd.fst) ∧ (ps_58 = v.snd.snd.snd.fst) ∧ (List.take v_8.fst (List.drop 0 v_8.snd) = v.snd.snd.snd.snd) ∧ (true = v.fst) ∧ (D2 d) ∧ ((1 ≤ half d) ∧ (half d ≤ 32)) ∧ ((128 * half d ≤ d.length) ∧ (d.length ≤ 4096)) ∧ (((0 ≤ v.snd.fst) ∧ (v.snd.fst ≤ 4611686018427387903)) ∧ (0 ≤ v.snd.snd.fst) ∧ (v.snd.snd.fst ≤ 3)) ∧ (v.snd.snd.snd.snd.length = half d) ∧ (Sl1 d (0 : Int) v.fst v.snd.fst v.snd.snd.fst v.snd.snd.snd.fst v.snd.snd.snd.snd))) ∧ ∀ (v_60 : Bool × Int × Int × List Plan × List (List UInt8)), (D2 d ∧ (1 ≤ half d ∧ half d ≤ 32) ∧ (128 * half d ≤ d.length ∧ d.length ≤ 4096) ∧ ((0 ≤ v_60.snd.fst ∧ v_60.snd.fst ≤ 4611686018427387903) ∧ 0 ≤ v_60.snd.snd.fst ∧ v_60.snd.snd.fst ≤ 3) ∧ v_60.snd.snd.snd.snd.length = half d ∧ Sl1 d (0 : Int) v_60.fst v_60.snd.fst v_60.snd.snd.fst v_60.snd.snd.snd.fst v_60.snd.snd.snd.snd) → ((0 ≤ Int.ofNat (Nat.succ 0)) ∧ (Int.ofNat (Nat.succ 0) < (↑(2 : Nat) : Int)) ∧ ((2 : Int) ≠ (0 : Int)) ∧ ∀ (n62 : Int), (n62 = IntKind.i64.wrap ((↑(d.length / 64) : Int).tdiv (2 : Int))) → (inK .i64 n62) → (∃ (v : Nat × List (List UInt8) × Bool × Int × Int × List Plan × List (List UInt8)), ((↑(d.length / 64) : Int) = (↑(d.length / 64) : Int)) ∧ (Int.ofNat (Nat.succ 0) = (1 : Int)) ∧ (Int.ofNat (Nat.succ 0) = (1 : Int)) ∧ (n62 = (↑(half d) : Int)) ∧ ((0 : Int) = (↑v.fst : Int)) ∧ (d = d) ∧ (v_60.snd.fst = v.snd.snd.snd.fst) ∧ (v_60.snd.snd.fst = v.snd.snd.snd.snd.fst) ∧ (v_60.snd.snd.snd.fst = v.snd.snd.snd.snd.snd.fst) ∧ (v_60.snd.snd.snd.snd = v.snd.snd.snd.snd.snd.snd) ∧ (v_60.fst = v.snd.snd.fst) ∧ ((0 : Int) = (0 : Int)) ∧ ((0 : Int) = (0 : Int)) ∧ (0 = 0) ∧ (0 = v.fst) ∧ (false = false) ∧ ([] = v.snd.fst) ∧ (v.fst ≤ half d) ∧ (D2 d) ∧ ((1 ≤ half d) ∧ (half d ≤ 32)) ∧ (v.snd.fst.length = v.fst) ∧ ((128 * half d ≤ d.length) ∧ (d.length ≤ 4096)) ∧ (SnI d (1 : Int) v.fst v.snd.fst) ∧ (((0 ≤ v.snd.snd.snd.fst) ∧ (v.snd.snd.snd.fst ≤ 4611686018427387903)) ∧ (0 ≤ v.snd.snd.snd.snd.fst) ∧ (v.snd.snd.snd.snd.fst ≤ 3)) ∧ (v.snd.snd.snd.snd.snd.snd.length = half d) ∧ (Sl1 d (0 : Int) v.snd.snd.fst v.snd.snd.snd.fst v.snd.snd.snd.snd.fst v.snd.snd.snd.snd.snd.fst v.snd.snd.snd.snd.snd.snd)) ∧ ∀ (v_65 : Nat × List (List UInt8) × Bool × Int × Int × List Plan × List (List UInt8)), (v_65.fst ≤ half d ∧ D2 d ∧ (1 ≤ half d ∧ half d ≤ 32) ∧ v_65.snd.fst.length = v_65.fst ∧ (128 * half d ≤ d.length ∧ d.length ≤ 4096) ∧ SnI d (1 : Int) v_65.fst v_65.snd.fst ∧ ((0 ≤ v_65.snd.snd.snd.fst ∧ v_65.snd.snd.snd.fst ≤ 4611686018427387903) ∧ 0 ≤ v_65.snd.snd.snd.snd.fst ∧ v_65.snd.snd.snd.snd.fst ≤ 3) ∧ v_65.snd.snd.snd.snd.snd.snd.length = half d ∧ Sl1 d (0 : Int) v_65.snd.snd.fst v_65.snd.snd.snd.fst v_65.snd.snd.snd.snd.fst v_65.snd.snd.snd.snd.snd.fst v_65.snd.snd.snd.snd.snd.snd) → br (decide ((↑v_65.fst : Int) < (↑(half d) : Int))) (((2 : Int) ≠ (0 : Int)) ∧ ∀ (n67 : Int), (n67 = IntKind.i64.wrap ((↑(d.length / 64) : Int).tdiv (2 : Int))) → (inK .i64 n67) → ∀ (n70 : Int), (n70 = IntKind.i64.wrap ((1 : Int) * n67)) → (inK .i64 n70) → ∀ (n73 : Int), (n73 = IntKind.i64.wrap (n70 + (↑v_65.fst : Int))) → (inK .i64 n73) → (d.length ≤ 1000000) ∧ ∀ (e_76 : Int), ∀ (ys_77 : List UInt8), ∀ (q_78 : Nat), (e_76 = askE d n73) → (ys_77 = rdO d n73) → (ys_77.length = q_78) → ((0 : Int) ≤ (1 : Int)) ∧ ((1 : Int) < (↑(2 : Nat) : Int)) ∧ (((0 : Int) ≤ (1 : Int)) ∧ ((1 : Int) < (↑(2 : Nat) : Int)) ∧ (((v_65.fst + 1) * 24 ≤ 140737488355328) ∧ ∀ (z82 : List (List UInt8)), (z82 = List.take v_65.fst v_65.snd.fst ++ List.take 1 (List.drop 0 [List.take q_78 (List.drop 0 ys_77)])) → ∀ (n84 : Int), (n84 = IntKind.i64.wrap ((↑v_65.fst : Int) + (1 : Int))) → (inK .i64 n84) → ∃ (v' : Nat × List (List UInt8) × Bool × Int × Int × List Plan × List (List UInt8)), ((↑(d.length / 64) : Int) = (↑(d.length / 64) : Int)) ∧ ((1 : Int) = (1 : Int)) ∧ ((1 : Int) = (1 : Int)) ∧ ((↑(half d) : Int) = (↑(half d) : Int)) ∧ (n84 = (↑v'.fst : Int)) ∧ (d = d) ∧ (v_65.snd.snd.snd.fst = v'.snd.snd.snd.fst) ∧ (v_65.snd.snd.snd.snd.fst = v'.snd.snd.snd.snd.fst) ∧ (v_65.snd.snd.snd.snd.snd.fst = v'.snd.snd.snd.snd.snd.fst) ∧ (v_65.snd.snd.snd.snd.snd.snd = v'.snd.snd.snd.snd.snd.snd) ∧ (v_65.snd.snd.fst = v'.snd.snd.fst) ∧ ((0 : Int) = (0 : Int)) ∧ ((0 : Int) = (0 : Int)) ∧ (0 = 0) ∧ (v_65.fst + 1 = v'.fst) ∧ (false = false) ∧ (z82 = v'.snd.fst) ∧ ((v'.fst ≤ half d) ∧ (D2 d) ∧ ((1 ≤ half d) ∧ (half d ≤ 32)) ∧ (v'.snd.fst.length = v'.fst) ∧ ((128 * half d ≤ d.length) ∧ (d.length ≤ 4096)) ∧ (SnI d (1 : Int) v'.fst v'.snd.fst) ∧ (((0 ≤ v'.snd.snd.snd.fst) ∧ (v'.snd.snd.snd.fst ≤ (4611686018427387903 : Int))) ∧ (0 ≤ v'.snd.snd.snd.snd.fst) ∧ (v'.snd.snd.snd.snd.fst ≤ (3 : Int))) ∧ (v'.snd.snd.snd.snd.snd.snd.length = half d) ∧ (Sl1 d (0 : Int) v'.snd.snd.fst v'.snd.snd.snd.fst v'.snd.snd.snd.snd.fst v'.snd.snd.snd.snd.snd.fst v'.snd.snd.snd.snd.snd.snd)) ∧ (half d - v'.fst < half d - v_65.fst)) ∧ (((v_65.fst + 1) * 24 ≤ 140737488355328) ∧ ∀ (z87 : List (List UInt8)), (z87 = List.take v_65.fst v_65.snd.fst ++ List.take 1 (List.drop 0 [List.take q_78 (List.drop 0 ys_77)])) → ∀ (n89 : Int), (n89 = IntKind.i64.wrap ((↑v_65.fst : Int) + (1 : Int))) → (inK .i64 n89) → ∃ (v' : Nat × List (List UInt8) × Bool × Int × Int × List Plan × List (List UInt8)), ((↑(d.length / 64) : Int) = (↑(d.length / 64) : Int)) ∧ ((1 : Int) = (1 : Int)) ∧ ((1 : Int) = (1 : Int)) ∧ ((↑(half d) : Int) = (↑(half d) : Int)) ∧ (n89 = (↑v'.fst : Int)) ∧ (d = d) ∧ (v_65.snd.snd.snd.fst = v'.snd.snd.snd.fst) ∧ (v_65.snd.snd.snd.snd.fst = v'.snd.snd.snd.snd.fst) ∧ (v_65.snd.snd.snd.snd.snd.fst = v'.snd.snd.snd.snd.snd.fst) ∧ (v_65.snd.snd.snd.snd.snd.snd = v'.snd.snd.snd.snd.snd.snd) ∧ (v_65.snd.snd.fst = v'.snd.snd.fst) ∧ ((0 : Int) = (0 : Int)) ∧ ((0 : Int) = (0 : Int)) ∧ (0 = 0) ∧ (v_65.fst + 1 = v'.fst) ∧ (false = false) ∧ (z87 = v'.snd.fst) ∧ ((v'.fst ≤ half d) ∧ (D2 d) ∧ ((1 ≤ half d) ∧ (half d ≤ 32)) ∧ (v'.snd.fst.length = v'.fst) ∧ ((128 * half d ≤ d.length) ∧ (d.length ≤ 4096)) ∧ (SnI d (1 : Int) v'.fst v'.snd.fst) ∧ (((0 ≤ v'.snd.snd.snd.fst) ∧ (v'.snd.snd.snd.fst ≤ (4611686018427387903 : Int))) ∧ (0 ≤ v'.snd.snd.snd.snd.fst) ∧ (v'.snd.snd.snd.snd.fst ≤ (3 : Int))) ∧ (v'.snd.snd.snd.snd.snd.snd.length = half d) ∧ (Sl1 d (0 : Int) v'.snd.snd.fst v'.snd.snd.snd.fst v'.snd.snd.snd.snd.fst v'.snd.snd.snd.snd.snd.fst v'.snd.snd.snd.snd.snd.snd)) ∧ (half d - v'.fst < half d - v_65.fst)) ∧ ((v_65.fst + 1) * 24 ≤ 140737488355328) ∧ ∀ (z92 : List (List UInt8)), (z92 = List.take v_65.fst v_65.snd.fst ++ List.take 1 (List.drop 0 [List.take q_78 (List.drop 0 ys_77)])) → ∀ (n94 : Int), (n94 = IntKind.i64.wrap ((↑v_65.fst : Int) + (1 : Int))) → (inK .i64 n94) → ∃ (v' : Nat × List (List UInt8) × Bool × Int × Int × List Plan × List (List UInt8)), ((↑(d.length / 64) : Int) = (↑(d.length / 64) : Int)) ∧ ((1 : Int) = (1 : Int)) ∧ ((1 : Int) = (1 : Int)) ∧ ((↑(half d) : Int) = (↑(half d) : Int)) ∧ (n94 = (↑v'.fst : Int)) ∧ (d = d) ∧ (v_65.snd.snd.snd.fst = v'.snd.snd.snd.fst) ∧ (v_65.snd.snd.snd.snd.fst = v'.snd.snd.snd.snd.fst) ∧ (v_65.snd.snd.snd.snd.snd.fst = v'.snd.snd.snd.snd.snd.fst) ∧ (v_65.snd.snd.snd.snd.snd.snd = v'.snd.snd.snd.snd.snd.snd) ∧ (v_65.snd.snd.fst = v'.snd.snd.fst) ∧ ((0 : Int) = (0 : Int)) ∧ ((0 : Int) = (0 : Int)) ∧ (0 = 0) ∧ (v_65.fst + 1 = v'.fst) ∧ (false = false) ∧ (z92 = v'.snd.fst) ∧ ((v'.fst ≤ half d) ∧ (D2 d) ∧ ((1 ≤ half d) ∧ (half d ≤ 32)) ∧ (v'.snd.fst.length = v'.fst) ∧ ((128 * half d ≤ d.length) ∧ (d.length ≤ 4096)) ∧ (SnI d (1 : Int) v'.fst v'.snd.fst) ∧ (((0 ≤ v'.snd.snd.snd.fst) ∧ (v'.snd.snd.snd.fst ≤ (4611686018427387903 : Int))) ∧ (0 ≤ v'.snd.snd.snd.snd.fst) ∧ (v'.snd.snd.snd.snd.fst ≤ (3 : Int))) ∧ (v'.snd.snd.snd.snd.snd.snd.length = half d) ∧ (Sl1 d (0 : Int) v'.snd.snd.fst v'.snd.snd.snd.fst v'.snd.snd.snd.snd.fst v'.snd.snd.snd.snd.snd.fst v'.snd.snd.snd.snd.snd.snd)) ∧ (half d - v'.fst < half d - v_65.fst)) ∧ (((0 : Int) ≤ (1 : Int)) ∧ ((1 : Int) < (↑(2 : Nat) : Int)) ∧ (((v_65.fst + 1) * 24 ≤ 140737488355328) ∧ ∀ (z97 : List (List UInt8)), (z97 = List.take v_65.fst v_65.snd.fst ++ List.take 1 (List.drop 0 [List.take q_78 (List.drop 0 ys_77)])) → ∀ (n99 : Int), (n99 = IntKind.i64.wrap ((↑v_65.fst : Int) + (1 : Int))) → (inK .i64 n99) → ∃ (v' : Nat × List (List UInt8) × Bool × Int × Int × List Plan × List (List UInt8)), ((↑(d.length / 64) : Int) = (↑(d.length / 64) : Int)) ∧ ((1 : Int) = (1 : Int)) ∧ ((1 : Int) = (1 : Int)) ∧ ((↑(half d) : Int) = (↑(half d) : Int)) ∧ (n99 = (↑v'.fst : Int)) ∧ (d = d) ∧ (v_65.snd.snd.snd.fst = v'.snd.snd.snd.fst) ∧ (v_65.snd.snd.snd.snd.fst = v'.snd.snd.snd.snd.fst) ∧ (v_65.snd.snd.snd.snd.snd.fst = v'.snd.snd.snd.snd.snd.fst) ∧ (v_65.snd.snd.snd.snd.snd.snd = v'.snd.snd.snd.snd.snd.snd) ∧ (v_65.snd.snd.fst = v'.snd.snd.fst) ∧ ((0 : Int) = (0 : Int)) ∧ ((0 : Int) = (0 : Int)) ∧ (0 = 0) ∧ (v_65.fst + 1 = v'.fst) ∧ (false = false) ∧ (z97 = v'.snd.fst) ∧ ((v'.fst ≤ half d) ∧ (D2 d) ∧ ((1 ≤ half d) ∧ (half d ≤ 32)) ∧ (v'.snd.fst.length = v'.fst) ∧ ((128 * half d ≤ d.length) ∧ (d.length ≤ 4096)) ∧ (SnI d (1 : Int) v'.fst v'.snd.fst) ∧ (((0 ≤ v'.snd.snd.snd.fst) ∧ (v'.snd.snd.snd.fst ≤ (4611686018427387903 : Int))) ∧ (0 ≤ v'.snd.snd.snd.snd.fst) ∧ (v'.snd.snd.snd.snd.fst ≤ (3 : Int))) ∧ (v'.snd.snd.snd.snd.snd.snd.length = half d) ∧ (Sl1 d (0 : Int) v'.snd.snd.fst v'.snd.snd.snd.fst v'.snd.snd.snd.snd.fst v'.snd.snd.snd.snd.snd.fst v'.snd.snd.snd.snd.snd.snd)) ∧ (half d - v'.fst < half d - v_65.fst)) ∧ ((v_65.fst + 1) * 24 ≤ 140737488355328) ∧ ∀ (z102 : List (List UInt8)), (z102 = List.take v_65.fst v_65.snd.fst ++ List.take 1 (List.drop 0 [List.take q_78 (List.drop 0 ys_77)])) → ∀ (n104 : Int), (n104 = IntKind.i64.wrap ((↑v_65.fst : Int) + (1 : Int))) → (inK .i64 n104) → ∃ (v' : Nat × List (List UInt8) × Bool × Int × Int × List Plan × List (List UInt8)), ((↑(d.length / 64) : Int) = (↑(d.length / 64) : Int)) ∧ ((1 : Int) = (1 : Int)) ∧ ((1 : Int) = (1 : Int)) ∧ ((↑(half d) : Int) = (↑(half d) : Int)) ∧ (n104 = (↑v'.fst : Int)) ∧ (d = d) ∧ (v_65.snd.snd.snd.fst = v'.snd.snd.snd.fst) ∧ (v_65.snd.snd.snd.snd.fst = v'.snd.snd.snd.snd.fst) ∧ (v_65.snd.snd.snd.snd.snd.fst = v'.snd.snd.snd.snd.snd.fst) ∧ (v_65.snd.snd.snd.snd.snd.snd = v'.snd.snd.snd.snd.snd.snd) ∧ (v_65.snd.snd.fst = v'.snd.snd.fst) ∧ ((0 : Int) = (0 : Int)) ∧ ((0 : Int) = (0 : Int)) ∧ (0 = 0) ∧ (v_65.fst + 1 = v'.fst) ∧ (false = false) ∧ (z102 = v'.snd.fst) ∧ ((v'.fst ≤ half d) ∧ (D2 d) ∧ ((1 ≤ half d) ∧ (half d ≤ 32)) ∧ (v'.snd.fst.length = v'.fst) ∧ ((128 * half d ≤ d.length) ∧ (d.length ≤ 4096)) ∧ (SnI d (1 : Int) v'.fst v'.snd.fst) ∧ (((0 ≤ v'.snd.snd.snd.fst) ∧ (v'.snd.snd.snd.fst ≤ (4611686018427387903 : Int))) ∧ (0 ≤ v'.snd.snd.snd.snd.fst) ∧ (v'.snd.snd.snd.snd.fst ≤ (3 : Int))) ∧ (v'.snd.snd.snd.snd.snd.snd.length = half d) ∧ (Sl1 d (0 : Int) v'.snd.snd.fst v'.snd.snd.snd.fst v'.snd.snd.snd.snd.fst v'.snd.snd.snd.snd.snd.fst v'.snd.snd.snd.snd.snd.snd)) ∧ (half d - v'.fst < half d - v_65.fst)) ∧ ((v_65.fst + 1) * 24 ≤ 140737488355328) ∧ ∀ (z107 : List (List UInt8)), (z107 = List.take v_65.fst v_65.snd.fst ++ List.take 1 (List.drop 0 [List.take q_78 (List.drop 0 ys_77)])) → ((0 : Int) ≤ (1 : Int)) ∧ ((1 : Int) < (↑(2 : Nat) : Int)) ∧ ∀ (n109 : Int), (n109 = IntKind.i64.wrap ((↑v_65.fst : Int) + (1 : Int))) → (inK .i64 n109) → ∃ (v' : Nat × List (List UInt8) × Bool × Int × Int × List Plan × List (List UInt8)), ((↑(d.length / 64) : Int) = (↑(d.length / 64) : Int)) ∧ ((1 : Int) = (1 : Int)) ∧ ((1 : Int) = (1 : Int)) ∧ ((↑(half d) : Int) = (↑(half d) : Int)) ∧ (n109 = (↑v'.fst : Int)) ∧ (d = d) ∧ (v_65.snd.snd.snd.fst = v'.snd.snd.snd.fst) ∧ (v_65.snd.snd.snd.snd.fst = v'.snd.snd.snd.snd.fst) ∧ (v_65.snd.snd.snd.snd.snd.fst = v'.snd.snd.snd.snd.snd.fst) ∧ (v_65.snd.snd.snd.snd.snd.snd = v'.snd.snd.snd.snd.snd.snd) ∧ (v_65.snd.snd.fst = v'.snd.snd.fst) ∧ ((0 : Int) = (0 : Int)) ∧ ((0 : Int) = (0 : Int)) ∧ (0 = 0) ∧ (v_65.fst + 1 = v'.fst) ∧ (false = false) ∧ (z107 = v'.snd.fst) ∧ ((v'.fst ≤ half d) ∧ (D2 d) ∧ ((1 ≤ half d) ∧ (half d ≤ 32)) ∧ (v'.snd.fst.length = v'.fst) ∧ ((128 * half d ≤ d.length) ∧ (d.length ≤ 4096)) ∧ (SnI d (1 : Int) v'.fst v'.snd.fst) ∧ (((0 ≤ v'.snd.snd.snd.fst) ∧ (v'.snd.snd.snd.fst ≤ (4611686018427387903 : Int))) ∧ (0 ≤ v'.snd.snd.snd.snd.fst) ∧ (v'.snd.snd.snd.snd.fst ≤ (3 : Int))) ∧ (v'.snd.snd.snd.snd.snd.snd.length = half d) ∧ (Sl1 d (0 : Int) v'.snd.snd.fst v'.snd.snd.snd.fst v'.snd.snd.snd.snd.fst v'.snd.snd.snd.snd.snd.fst v'.snd.snd.snd.snd.snd.snd)) ∧ (half d - v'.fst < half d - v_65.fst)) (((0 : Int) ≤ (1 : Int)) ∧ ((1 : Int) < (↑(2 : Nat) : Int)) ∧ ((B64 v_65.snd.fst) ∧ (v_65.fst = v_65.snd.fst.length)) ∧ ((KF v_65.snd.fst false (0 : Int) (0 : Int) []) → ∃ (v : Bool × Int × Int × List Plan × List (List UInt8) × Bool × Int × Int × List Plan × List (List UInt8)), ((↑(d.length / 64) : Int) = (↑(d.length / 64) : Int)) ∧ ((1 : Int) = (1 : Int)) ∧ (d = d) ∧ (v_65.snd.snd.snd.fst = v.snd.snd.snd.snd.snd.snd.fst) ∧ (v_65.snd.snd.snd.snd.fst = v.snd.snd.snd.snd.snd.snd.snd.fst) ∧ (v_65.snd.snd.snd.snd.snd.fst = v.snd.snd.snd.snd.snd.snd.snd.snd.fst) ∧ (v_65.snd.snd.snd.snd.snd.snd = v.snd.snd.snd.snd.snd.snd.snd.snd.snd) ∧ (v_65.snd.snd.fst = v.snd.snd.snd.snd.snd.fst) ∧ (0 = v.snd.fst) ∧ (0 = v.snd.snd.fst) ∧ (v.snd.snd.snd.fst = []) ∧ (List.take v_65.fst (List.drop 0 v_65.snd.fst) = v.snd.snd.snd.snd.fst) ∧ (false = v.fst) ∧ (D2 d) ∧ (((0 ≤ v.snd.fst) ∧ (v.snd.fst ≤ 4611686018427387903)) ∧ (0 ≤ v.snd.snd.fst) ∧ (v.snd.snd.fst ≤ 3)) ∧ (v.snd.snd.snd.snd.fst.length = half d) ∧ (Sl1 d (1 : Int) v.fst v.snd.fst v.snd.snd.fst v.snd.snd.snd.fst v.snd.snd.snd.snd.fst) ∧ (((0 ≤ v.snd.snd.snd.snd.snd.snd.fst) ∧ (v.snd.snd.snd.snd.snd.snd.fst ≤ 4611686018427387903)) ∧ (0 ≤ v.snd.snd.snd.snd.snd.snd.snd.fst) ∧ (v.snd.snd.snd.snd.snd.snd.snd.fst ≤ 3)) ∧ (v.snd.snd.snd.snd.snd.snd.snd.snd.snd.length = half d) ∧ (Sl1 d (0 : Int) v.snd.snd.snd.snd.snd.fst v.snd.snd.snd.snd.snd.snd.fst v.snd.snd.snd.snd.snd.snd.snd.fst v.snd.snd.snd.snd.snd.snd.snd.snd.fst v.snd.snd.snd.snd.snd.snd.snd.snd.snd)) ∧ ∀ (g_113 : Int), ∀ (m_114 : Int), ∀ (ps_115 : List Plan), (KF v_65.snd.fst true g_113 m_114 ps_115) → ∃ (v : Bool × Int × Int × List Plan × List (List UInt8) × Bool × Int × Int × List Plan × List (List UInt8)), ((↑(d.length / 64) : Int) = (↑(d.length / 64) : Int)) ∧ ((1 : Int) = (1 : Int)) ∧ (d = d) ∧ (v_65.snd.snd.snd.fst = v.snd.snd.snd.snd.snd.snd.fst) ∧ (v_65.snd.snd.snd.snd.fst = v.snd.snd.snd.snd.snd.snd.snd.fst) ∧ (v_65.snd.snd.snd.snd.snd.fst = v.snd.snd.snd.snd.snd.snd.snd.snd.fst) ∧ (v_65.snd.snd.snd.snd.snd.snd = v.snd.snd.snd.snd.snd.snd.snd.snd.snd) ∧ (v_65.snd.snd.fst = v.snd.snd.snd.snd.snd.fst) ∧ (g_113 = v.snd.fst) ∧ (m_114 = v.snd.snd.fst) ∧ (ps_115 = v.snd.snd.snd.fst) ∧ (List.take v_65.fst (List.drop 0 v_65.snd.fst) = v.snd.snd.snd.snd.fst) ∧ (true = v.fst) ∧ (D2 d) ∧ (((0 ≤ v.snd.fst) ∧ (v.snd.fst ≤ 4611686018427387903)) ∧ (0 ≤ v.snd.snd.fst) ∧ (v.snd.snd.fst ≤ 3)) ∧ (v.snd.snd.snd.snd.fst.length = half d) ∧ (Sl1 d (1 : Int) v.fst v.snd.fst v.snd.snd.fst v.snd.snd.snd.fst v.snd.snd.snd.snd.fst) ∧ (((0 ≤ v.snd.snd.snd.snd.snd.snd.fst) ∧ (v.snd.snd.snd.snd.snd.snd.fst ≤ 4611686018427387903)) ∧ (0 ≤ v.snd.snd.snd.snd.snd.snd.snd.fst) ∧ (v.snd.snd.snd.snd.snd.snd.snd.fst ≤ 3)) ∧ (v.snd.snd.snd.snd.snd.snd.snd.snd.snd.length = half d) ∧ (Sl1 d (0 : Int) v.snd.snd.snd.snd.snd.fst v.snd.snd.snd.snd.snd.snd.fst v.snd.snd.snd.snd.snd.snd.snd.fst v.snd.snd.snd.snd.snd.snd.snd.snd.fst v.snd.snd.snd.snd.snd.snd.snd.snd.snd))) ∧ ∀ (v_117 : Bool × Int × Int × List Plan × List (List UInt8) × Bool × Int × Int × List Plan × List (List UInt8)), (D2 d ∧ ((0 ≤ v_117.snd.fst ∧ v_117.snd.fst ≤ 4611686018427387903) ∧ 0 ≤ v_117.snd.snd.fst ∧ v_117.snd.snd.fst ≤ 3) ∧ v_117.snd.snd.snd.snd.fst.length = half d ∧ Sl1 d (1 : Int) v_117.fst v_117.snd.fst v_117.snd.snd.fst v_117.snd.snd.snd.fst v_117.snd.snd.snd.snd.fst ∧ ((0 ≤ v_117.snd.snd.snd.snd.snd.snd.fst ∧ v_117.snd.snd.snd.snd.snd.snd.fst ≤ 4611686018427387903) ∧ 0 ≤ v_117.snd.snd.snd.snd.snd.snd.snd.fst ∧ v_117.snd.snd.snd.snd.snd.snd.snd.fst ≤ 3) ∧ v_117.snd.snd.snd.snd.snd.snd.snd.snd.snd.length = half d ∧ Sl1 d (0 : Int) v_117.snd.snd.snd.snd.snd.fst v_117.snd.snd.snd.snd.snd.snd.fst v_117.snd.snd.snd.snd.snd.snd.snd.fst v_117.snd.snd.snd.snd.snd.snd.snd.snd.fst v_117.snd.snd.snd.snd.snd.snd.snd.snd.snd) → (k (.tup [.agg [.ptr 0 0, .ptr 1 0], .int .i64 0]) [] [.cells [.int .i64 v_117.snd.snd.snd.snd.snd.snd.fst, .int .u8 v_117.snd.snd.snd.snd.snd.snd.snd.fst, .sl 10 v_117.snd.snd.snd.snd.snd.snd.snd.snd.fst, .sl 6 v_117.snd.snd.snd.snd.snd.snd.snd.snd.snd, .bool v_117.snd.snd.snd.snd.snd.fst], .cells [.int .i64 v_117.snd.fst, .int .u8 v_117.snd.snd.fst, .sl 10 v_117.snd.snd.snd.fst, .sl 6 v_117.snd.snd.snd.snd.fst, .bool v_117.fst]]))) := by
 intro e_1 m_2 h1 h2
 refine br_intro (fun c3 => ?_) (fun c3 => ?_)
 ·
  simp at c3
  have o : ¬ dOk d.length := fun o => c3 (h1.trans (chk_0.2 o))
  unfold chkE at h1
  rw [if_neg o] at h1
  exact hk.1 _ (by unfold askD; rw [if_neg o]; exact h1) c3 (by omega)
 simp at c3
 refine brd (fun c4 => ?_) (fun c4 => ?_)
 ·
  have o : dOk d.length := chk_0.1 (h1.symm.trans c3)
  rw [if_pos o] at h2
  exact hk.1 _ (by unfold askD; rw [if_pos o, if_pos (by omega)]) (by decide) (by omega)
 refine ⟨?_, ?_⟩
 ·
  refine ⟨by first | omega | (dsimp only; omega), by first | omega | (dsimp only; omega), by first | omega | (dsimp only; omega), ?_⟩
  intro n5 q5
  rw [Int.tdiv_eq_ediv_of_nonneg (by omega)] at q5
  first | (rw [wrI64] at q5; rotate_left 1; · omega) | rw [IntKind.wrap_i64] at q5
  intro ⟨l5, u5⟩
  refine ⟨?_, ?_⟩
  ·
   refine ⟨((0 : Nat), []), by show m_2 = (↑(d.length / (64 : Nat)) : Int); omega, rfl, rfl, ?_⟩
   have h5 : n5 = (↑(half d) : Int) := by
    have o : dOk d.length := chk_0.1 (h1.symm.trans c3)
    rw [if_pos o] at h2
    have D : D2 d := ⟨o, by omega⟩
    have di := D.in
    have t : m_2 / 2 = (half d : Int) := by unfold half; omega
    rw [t] at q5
    omega
   refine ⟨h5, by show (0 : Int) = (↑(0 : Nat) : Int); omega, rfl, rfl, rfl, rfl, rfl, rfl, rfl, by show (0 : Nat) ≤ half d; omega, ?_⟩
   have h6 : D2 d := by
    have o : dOk d.length := chk_0.1 (h1.symm.trans c3)
    rw [if_pos o] at h2
    have D : D2 d := ⟨o, by omega⟩
    have di := D.in
    exact D
   refine ⟨h6, ?_⟩
   refine ⟨?_, ?_⟩
   ·
    have h7 : (1 : Nat) ≤ half d := by
     have o : dOk d.length := chk_0.1 (h1.symm.trans c3)
     rw [if_pos o] at h2
     have D : D2 d := ⟨o, by omega⟩
     have di := D.in
     exact D.in.1
    refine ⟨h7, ?_⟩
    have o : dOk d.length := chk_0.1 (h1.symm.trans c3)
    rw [if_pos o] at h2
    have D : D2 d := ⟨o, by omega⟩
    have di := D.in
    exact D.in.2.1
   refine ⟨rfl, ?_⟩
   refine ⟨?_, ?_⟩
   ·
    refine ⟨by show (128 : Nat) * half d ≤ d.length; omega, ?_⟩
    have o : dOk d.length := chk_0.1 (h1.symm.trans c3)
    rw [if_pos o] at h2
    have D : D2 d := ⟨o, by omega⟩
    have di := D.in
    exact D.in.2.2.2.2
   exact ⟨rfl⟩
  intro v_8 h8
  refine brd (fun c9 => ?_) (fun c9 => ?_)
  ·
   refine ⟨by first | omega | (dsimp only; omega), ?_⟩
   intro n10 q10
   rw [Int.tdiv_eq_ediv_of_nonneg (by omega)] at q10
   first | (rw [wrI64] at q10; rotate_left 1; · omega) | rw [IntKind.wrap_i64] at q10
   intro ⟨l10, u10⟩ n13 q13
   first | (rw [wrI64] at q13; rotate_left 1; · omega) | rw [IntKind.wrap_i64] at q13
   intro ⟨l13, u13⟩ n16 q16
   first | (rw [wrI64] at q16; rotate_left 1; · omega) | rw [IntKind.wrap_i64] at q16
   intro ⟨l16, u16⟩
   refine ⟨by first | omega | (dsimp only; omega), ?_⟩
   intro e_19 ys_20 q_21 h10 h11 h12
   refine ⟨by first | omega | (dsimp only; omega), by first | omega | (dsimp only; omega), ?_⟩
   refine ⟨?_, ?_⟩
   ·
    refine ⟨by first | omega | (dsimp only; omega), by first | omega | (dsimp only; omega), ?_⟩
    refine ⟨?_, ?_⟩
    ·
     refine ⟨by first | omega | (dsimp only; omega), ?_⟩
     intro z25 qz25 n27 q27
     first | (rw [wrI64] at q27; rotate_left 1; · omega) | rw [IntKind.wrap_i64] at q27
     intro ⟨l27, u27⟩
     refine ⟨(v_8.fst + (1 : Nat), z25), rfl, rfl, rfl, rfl, by show n27 = (↑(v_8.fst + (1 : Nat)) : Int); omega, rfl, rfl, rfl, rfl, rfl, rfl, rfl, ?_⟩
     refine ⟨?_, ?_⟩
     ·
      refine ⟨by show v_8.fst + (1 : Nat) ≤ half d; omega, ?_⟩
      have h13 : D2 d := by
       exact h8.2.1
      refine ⟨h13, by first | omega | (dsimp only; omega), ?_⟩
      have h14 : z25.length = v_8.fst + (1 : Nat) := by
       have D := h8.2.1
       have di := D.in
       have hh : half d = d.length / 64 / 2 := rfl
       have s := slo_0 d
       have hx : ys_20 = blk d (slo d 0 + (v_8.fst : Int)) := by
        rw [h11, show n16 = slo d 0 + (v_8.fst : Int) by omega]
        exact rd_is D (by omega) (by omega)
       exact (sn_step h8.2.2.2.2.2 h8.2.2.2.1 hx h12 qz25).2
      refine ⟨h14, by first | omega | (dsimp only; omega), ?_⟩
      have D := h8.2.1
      have di := D.in
      have hh : half d = d.length / 64 / 2 := rfl
      have s := slo_0 d
      have hx : ys_20 = blk d (slo d 0 + (v_8.fst : Int)) := by
       rw [h11, show n16 = slo d 0 + (v_8.fst : Int) by omega]
       exact rd_is D (by omega) (by omega)
      exact (sn_step h8.2.2.2.2.2 h8.2.2.2.1 hx h12 qz25).1
     exact by show half d - (v_8.fst + (1 : Nat)) < half d - v_8.fst; omega
    refine ⟨?_, ?_⟩
    ·
     refine ⟨by first | omega | (dsimp only; omega), ?_⟩
     intro z30 qz30 n32 q32
     first | (rw [wrI64] at q32; rotate_left 1; · omega) | rw [IntKind.wrap_i64] at q32
     intro ⟨l32, u32⟩
     refine ⟨(v_8.fst + (1 : Nat), z30), rfl, rfl, rfl, rfl, by show n32 = (↑(v_8.fst + (1 : Nat)) : Int); omega, rfl, rfl, rfl, rfl, rfl, rfl, rfl, ?_⟩
     refine ⟨?_, ?_⟩
     ·
      refine ⟨by show v_8.fst + (1 : Nat) ≤ half d; omega, ?_⟩
      have h15 : D2 d := by
       exact h8.2.1
      refine ⟨h15, by first | omega | (dsimp only; omega), ?_⟩
      have h16 : z30.length = v_8.fst + (1 : Nat) := by
       have D := h8.2.1
       have di := D.in
       have hh : half d = d.length / 64 / 2 := rfl
       have s := slo_0 d
       have hx : ys_20 = blk d (slo d 0 + (v_8.fst : Int)) := by
        rw [h11, show n16 = slo d 0 + (v_8.fst : Int) by omega]
        exact rd_is D (by omega) (by omega)
       exact (sn_step h8.2.2.2.2.2 h8.2.2.2.1 hx h12 qz30).2
      refine ⟨h16, by first | omega | (dsimp only; omega), ?_⟩
      have D := h8.2.1
      have di := D.in
      have hh : half d = d.length / 64 / 2 := rfl
      have s := slo_0 d
      have hx : ys_20 = blk d (slo d 0 + (v_8.fst : Int)) := by
       rw [h11, show n16 = slo d 0 + (v_8.fst : Int) by omega]
       exact rd_is D (by omega) (by omega)
      exact (sn_step h8.2.2.2.2.2 h8.2.2.2.1 hx h12 qz30).1
     exact by show half d - (v_8.fst + (1 : Nat)) < half d - v_8.fst; omega
    refine ⟨by first | omega | (dsimp only; omega), ?_⟩
    intro z35 qz35 n37 q37
    first | (rw [wrI64] at q37; rotate_left 1; · omega) | rw [IntKind.wrap_i64] at q37
    intro ⟨l37, u37⟩
    refine ⟨(v_8.fst + (1 : Nat), z35), rfl, rfl, rfl, rfl, by show n37 = (↑(v_8.fst + (1 : Nat)) : Int); omega, rfl, rfl, rfl, rfl, rfl, rfl, rfl, ?_⟩
    refine ⟨?_, ?_⟩
    ·
     refine ⟨by show v_8.fst + (1 : Nat) ≤ half d; omega, ?_⟩
     have h17 : D2 d := by
      exact h8.2.1
     refine ⟨h17, by first | omega | (dsimp only; omega), ?_⟩
     have h18 : z35.length = v_8.fst + (1 : Nat) := by
      have D := h8.2.1
      have di := D.in
      have hh : half d = d.length / 64 / 2 := rfl
      have s := slo_0 d
      have hx : ys_20 = blk d (slo d 0 + (v_8.fst : Int)) := by
       rw [h11, show n16 = slo d 0 + (v_8.fst : Int) by omega]
       exact rd_is D (by omega) (by omega)
      exact (sn_step h8.2.2.2.2.2 h8.2.2.2.1 hx h12 qz35).2
     refine ⟨h18, by first | omega | (dsimp only; omega), ?_⟩
     have D := h8.2.1
     have di := D.in
     have hh : half d = d.length / 64 / 2 := rfl
     have s := slo_0 d
     have hx : ys_20 = blk d (slo d 0 + (v_8.fst : Int)) := by
      rw [h11, show n16 = slo d 0 + (v_8.fst : Int) by omega]
      exact rd_is D (by omega) (by omega)
     exact (sn_step h8.2.2.2.2.2 h8.2.2.2.1 hx h12 qz35).1
    exact by show half d - (v_8.fst + (1 : Nat)) < half d - v_8.fst; omega
   refine ⟨?_, ?_⟩
   ·
    refine ⟨by first | omega | (dsimp only; omega), by first | omega | (dsimp only; omega), ?_⟩
    refine ⟨?_, ?_⟩
    ·
     refine ⟨by first | omega | (dsimp only; omega), ?_⟩
     intro z40 qz40 n42 q42
     first | (rw [wrI64] at q42; rotate_left 1; · omega) | rw [IntKind.wrap_i64] at q42
     intro ⟨l42, u42⟩
     refine ⟨(v_8.fst + (1 : Nat), z40), rfl, rfl, rfl, rfl, by show n42 = (↑(v_8.fst + (1 : Nat)) : Int); omega, rfl, rfl, rfl, rfl, rfl, rfl, rfl, ?_⟩
     refine ⟨?_, ?_⟩
     ·
      refine ⟨by show v_8.fst + (1 : Nat) ≤ half d; omega, ?_⟩
      have h19 : D2 d := by
       exact h8.2.1
      refine ⟨h19, by first | omega | (dsimp only; omega), ?_⟩
      have h20 : z40.length = v_8.fst + (1 : Nat) := by
       have D := h8.2.1
       have di := D.in
       have hh : half d = d.length / 64 / 2 := rfl
       have s := slo_0 d
       have hx : ys_20 = blk d (slo d 0 + (v_8.fst : Int)) := by
        rw [h11, show n16 = slo d 0 + (v_8.fst : Int) by omega]
        exact rd_is D (by omega) (by omega)
       exact (sn_step h8.2.2.2.2.2 h8.2.2.2.1 hx h12 qz40).2
      refine ⟨h20, by first | omega | (dsimp only; omega), ?_⟩
      have D := h8.2.1
      have di := D.in
      have hh : half d = d.length / 64 / 2 := rfl
      have s := slo_0 d
      have hx : ys_20 = blk d (slo d 0 + (v_8.fst : Int)) := by
       rw [h11, show n16 = slo d 0 + (v_8.fst : Int) by omega]
       exact rd_is D (by omega) (by omega)
      exact (sn_step h8.2.2.2.2.2 h8.2.2.2.1 hx h12 qz40).1
     exact by show half d - (v_8.fst + (1 : Nat)) < half d - v_8.fst; omega
    refine ⟨by first | omega | (dsimp only; omega), ?_⟩
    intro z45 qz45 n47 q47
    first | (rw [wrI64] at q47; rotate_left 1; · omega) | rw [IntKind.wrap_i64] at q47
    intro ⟨l47, u47⟩
    refine ⟨(v_8.fst + (1 : Nat), z45), rfl, rfl, rfl, rfl, by show n47 = (↑(v_8.fst + (1 : Nat)) : Int); omega, rfl, rfl, rfl, rfl, rfl, rfl, rfl, ?_⟩
    refine ⟨?_, ?_⟩
    ·
     refine ⟨by show v_8.fst + (1 : Nat) ≤ half d; omega, ?_⟩
     have h21 : D2 d := by
      exact h8.2.1
     refine ⟨h21, by first | omega | (dsimp only; omega), ?_⟩
     have h22 : z45.length = v_8.fst + (1 : Nat) := by
      have D := h8.2.1
      have di := D.in
      have hh : half d = d.length / 64 / 2 := rfl
      have s := slo_0 d
      have hx : ys_20 = blk d (slo d 0 + (v_8.fst : Int)) := by
       rw [h11, show n16 = slo d 0 + (v_8.fst : Int) by omega]
       exact rd_is D (by omega) (by omega)
      exact (sn_step h8.2.2.2.2.2 h8.2.2.2.1 hx h12 qz45).2
     refine ⟨h22, by first | omega | (dsimp only; omega), ?_⟩
     have D := h8.2.1
     have di := D.in
     have hh : half d = d.length / 64 / 2 := rfl
     have s := slo_0 d
     have hx : ys_20 = blk d (slo d 0 + (v_8.fst : Int)) := by
      rw [h11, show n16 = slo d 0 + (v_8.fst : Int) by omega]
      exact rd_is D (by omega) (by omega)
     exact (sn_step h8.2.2.2.2.2 h8.2.2.2.1 hx h12 qz45).1
    exact by show half d - (v_8.fst + (1 : Nat)) < half d - v_8.fst; omega
   refine ⟨by first | omega | (dsimp only; omega), ?_⟩
   intro z50 qz50
   refine ⟨by first | omega | (dsimp only; omega), by first | omega | (dsimp only; omega), ?_⟩
   intro n52 q52
   first | (rw [wrI64] at q52; rotate_left 1; · omega) | rw [IntKind.wrap_i64] at q52
   intro ⟨l52, u52⟩
   refine ⟨(v_8.fst + (1 : Nat), z50), rfl, rfl, rfl, rfl, by show n52 = (↑(v_8.fst + (1 : Nat)) : Int); omega, rfl, rfl, rfl, rfl, rfl, rfl, rfl, ?_⟩
   refine ⟨?_, ?_⟩
   ·
    refine ⟨by show v_8.fst + (1 : Nat) ≤ half d; omega, ?_⟩
    have h23 : D2 d := by
     exact h8.2.1
    refine ⟨h23, by first | omega | (dsimp only; omega), ?_⟩
    have h24 : z50.length = v_8.fst + (1 : Nat) := by
     have D := h8.2.1
     have di := D.in
     have hh : half d = d.length / 64 / 2 := rfl
     have s := slo_0 d
     have hx : ys_20 = blk d (slo d 0 + (v_8.fst : Int)) := by
      rw [h11, show n16 = slo d 0 + (v_8.fst : Int) by omega]
      exact rd_is D (by omega) (by omega)
     exact (sn_step h8.2.2.2.2.2 h8.2.2.2.1 hx h12 qz50).2
    refine ⟨h24, by first | omega | (dsimp only; omega), ?_⟩
    have D := h8.2.1
    have di := D.in
    have hh : half d = d.length / 64 / 2 := rfl
    have s := slo_0 d
    have hx : ys_20 = blk d (slo d 0 + (v_8.fst : Int)) := by
     rw [h11, show n16 = slo d 0 + (v_8.fst : Int) by omega]
     exact rd_is D (by omega) (by omega)
    exact (sn_step h8.2.2.2.2.2 h8.2.2.2.1 hx h12 qz50).1
   exact by show half d - (v_8.fst + (1 : Nat)) < half d - v_8.fst; omega
  refine ⟨by first | omega | (dsimp only; omega), by first | omega | (dsimp only; omega), ?_⟩
  refine ⟨?_, ?_⟩
  ·
   have h25 : B64 v_8.snd := by
    exact sn_b64 h8.2.2.2.2.2 (by omega) h8.2.1 (by omega)
   refine ⟨h25, ?_⟩
   exact by omega
  refine ⟨?_, ?_⟩
  ·
   intro h26
   refine ⟨(false, (0 : Int), (0 : Int), [], List.take v_8.fst (List.drop (0 : Nat) v_8.snd)), rfl, rfl, rfl, rfl, rfl, rfl, rfl, rfl, ?_⟩
   have h27 : D2 d := by
    exact h8.2.1
   refine ⟨h27, by first | omega | (dsimp only; omega), by first | omega | (dsimp only; omega), ?_⟩
   refine ⟨?_, ?_⟩
   ·
    refine ⟨by first | omega | (dsimp only; omega), by show (0 : Int) ≤ (0 : Int); omega, ?_⟩
    exact by show (0 : Int) ≤ (3 : Int); omega
   have h28 : (List.take v_8.fst (List.drop (0 : Nat) v_8.snd)).length = half d := by
    rw [List.drop_zero, List.length_take]
    omega
   refine ⟨h28, ?_⟩
   exact sl_of h8.2.2.2.2.2 (by omega) h8.2.2.2.1 h26 rfl
  intro g_56 m_57 ps_58 h29
  refine ⟨(true, g_56, m_57, ps_58, List.take v_8.fst (List.drop (0 : Nat) v_8.snd)), rfl, rfl, rfl, rfl, rfl, rfl, rfl, rfl, ?_⟩
  have h30 : D2 d := by
   exact h8.2.1
  refine ⟨h30, by first | omega | (dsimp only; omega), by first | omega | (dsimp only; omega), ?_⟩
  refine ⟨?_, ?_⟩
  ·
   refine ⟨?_, ?_⟩
   ·
    have h31 : (0 : Int) ≤ g_56 := by
     have := h29.in
     try dsimp only
     omega
    refine ⟨h31, ?_⟩
    have := h29.in
    try dsimp only
    omega
   have h32 : (0 : Int) ≤ m_57 := by
    have := h29.in
    try dsimp only
    omega
   refine ⟨h32, ?_⟩
   have := h29.in
   try dsimp only
   omega
  have h33 : (List.take v_8.fst (List.drop (0 : Nat) v_8.snd)).length = half d := by
   rw [List.drop_zero, List.length_take]
   omega
  refine ⟨h33, ?_⟩
  exact sl_of h8.2.2.2.2.2 (by omega) h8.2.2.2.1 h29 rfl
 intro v_60 h34
 refine ⟨?_, ?_⟩
 ·
  refine ⟨by decide, by decide, by first | omega | (dsimp only; omega), ?_⟩
  intro n62 q62
  rw [Int.tdiv_eq_ediv_of_nonneg (by omega)] at q62
  first | (rw [wrI64] at q62; rotate_left 1; · omega) | rw [IntKind.wrap_i64] at q62
  intro ⟨l62, u62⟩
  refine ⟨?_, ?_⟩
  ·
   refine ⟨((0 : Nat), [], v_60.fst, v_60.snd.fst, v_60.snd.snd.fst, v_60.snd.snd.snd.fst, v_60.snd.snd.snd.snd), rfl, by show Int.ofNat (Nat.succ (0 : Nat)) = (1 : Int); decide, by show Int.ofNat (Nat.succ (0 : Nat)) = (1 : Int); decide, ?_⟩
   have h35 : n62 = (↑(half d) : Int) := by
    have D := h34.1
    have di := D.in
    have t : ((d.length / 64 : Nat) : Int) / 2 = (half d : Int) := by unfold half; omega
    rw [t] at q62
    omega
   refine ⟨h35, by show (0 : Int) = (↑(0 : Nat) : Int); omega, rfl, rfl, rfl, rfl, rfl, rfl, rfl, rfl, rfl, rfl, rfl, rfl, by show (0 : Nat) ≤ half d; omega, ?_⟩
   have h36 : D2 d := by
    exact h34.1
   refine ⟨h36, by first | omega | (dsimp only; omega), rfl, by first | omega | (dsimp only; omega), ?_⟩
   have h37 : SnI d (1 : Int) (0 : Nat) [] := by
    exact ⟨rfl⟩
   refine ⟨h37, ?_⟩
   refine ⟨?_, ?_⟩
   ·
    refine ⟨by first | omega | (dsimp only; omega), by show (0 : Int) ≤ v_60.snd.snd.fst; omega, ?_⟩
    exact by show v_60.snd.snd.fst ≤ (3 : Int); omega
   refine ⟨by show v_60.snd.snd.snd.snd.length = half d; omega, ?_⟩
   exact h34.2.2.2.2.2
  intro v_65 h38
  refine brd (fun c39 => ?_) (fun c39 => ?_)
  ·
   refine ⟨by first | omega | (dsimp only; omega), ?_⟩
   intro n67 q67
   rw [Int.tdiv_eq_ediv_of_nonneg (by omega)] at q67
   first | (rw [wrI64] at q67; rotate_left 1; · omega) | rw [IntKind.wrap_i64] at q67
   intro ⟨l67, u67⟩ n70 q70
   first | (rw [wrI64] at q70; rotate_left 1; · omega) | rw [IntKind.wrap_i64] at q70
   intro ⟨l70, u70⟩ n73 q73
   first | (rw [wrI64] at q73; rotate_left 1; · omega) | rw [IntKind.wrap_i64] at q73
   intro ⟨l73, u73⟩
   refine ⟨by first | omega | (dsimp only; omega), ?_⟩
   intro e_76 ys_77 q_78 h40 h41 h42
   refine ⟨by first | omega | (dsimp only; omega), by first | omega | (dsimp only; omega), ?_⟩
   refine ⟨?_, ?_⟩
   ·
    refine ⟨by first | omega | (dsimp only; omega), by first | omega | (dsimp only; omega), ?_⟩
    refine ⟨?_, ?_⟩
    ·
     refine ⟨by first | omega | (dsimp only; omega), ?_⟩
     intro z82 qz82 n84 q84
     first | (rw [wrI64] at q84; rotate_left 1; · omega) | rw [IntKind.wrap_i64] at q84
     intro ⟨l84, u84⟩
     refine ⟨(v_65.fst + (1 : Nat), z82, v_65.snd.snd.fst, v_65.snd.snd.snd.fst, v_65.snd.snd.snd.snd.fst, v_65.snd.snd.snd.snd.snd.fst, v_65.snd.snd.snd.snd.snd.snd), rfl, rfl, rfl, rfl, by show n84 = (↑(v_65.fst + (1 : Nat)) : Int); omega, rfl, rfl, rfl, rfl, rfl, rfl, rfl, rfl, rfl, rfl, rfl, rfl, ?_⟩
     refine ⟨?_, ?_⟩
     ·
      refine ⟨by show v_65.fst + (1 : Nat) ≤ half d; omega, ?_⟩
      have h43 : D2 d := by
       exact h38.2.1
      refine ⟨h43, by first | omega | (dsimp only; omega), ?_⟩
      have h44 : z82.length = v_65.fst + (1 : Nat) := by
       have D := h38.2.1
       have di := D.in
       have hh : half d = d.length / 64 / 2 := rfl
       have s := slo_1 d
       have hx : ys_77 = blk d (slo d 1 + (v_65.fst : Int)) := by
        rw [h41, show n73 = slo d 1 + (v_65.fst : Int) by omega]
        exact rd_is D (by omega) (by omega)
       exact (sn_step h38.2.2.2.2.2.1 h38.2.2.2.1 hx h42 qz82).2
      refine ⟨h44, by first | omega | (dsimp only; omega), ?_⟩
      have h45 : SnI d (1 : Int) (v_65.fst + (1 : Nat)) z82 := by
       have D := h38.2.1
       have di := D.in
       have hh : half d = d.length / 64 / 2 := rfl
       have s := slo_1 d
       have hx : ys_77 = blk d (slo d 1 + (v_65.fst : Int)) := by
        rw [h41, show n73 = slo d 1 + (v_65.fst : Int) by omega]
        exact rd_is D (by omega) (by omega)
       exact (sn_step h38.2.2.2.2.2.1 h38.2.2.2.1 hx h42 qz82).1
      refine ⟨h45, ?_⟩
      refine ⟨?_, ?_⟩
      ·
       refine ⟨by first | omega | (dsimp only; omega), by show (0 : Int) ≤ v_65.snd.snd.snd.snd.fst; omega, ?_⟩
       exact by show v_65.snd.snd.snd.snd.fst ≤ (3 : Int); omega
      refine ⟨by show v_65.snd.snd.snd.snd.snd.snd.length = half d; omega, ?_⟩
      exact h38.2.2.2.2.2.2.2.2
     exact by show half d - (v_65.fst + (1 : Nat)) < half d - v_65.fst; omega
    refine ⟨?_, ?_⟩
    ·
     refine ⟨by first | omega | (dsimp only; omega), ?_⟩
     intro z87 qz87 n89 q89
     first | (rw [wrI64] at q89; rotate_left 1; · omega) | rw [IntKind.wrap_i64] at q89
     intro ⟨l89, u89⟩
     refine ⟨(v_65.fst + (1 : Nat), z87, v_65.snd.snd.fst, v_65.snd.snd.snd.fst, v_65.snd.snd.snd.snd.fst, v_65.snd.snd.snd.snd.snd.fst, v_65.snd.snd.snd.snd.snd.snd), rfl, rfl, rfl, rfl, by show n89 = (↑(v_65.fst + (1 : Nat)) : Int); omega, rfl, rfl, rfl, rfl, rfl, rfl, rfl, rfl, rfl, rfl, rfl, rfl, ?_⟩
     refine ⟨?_, ?_⟩
     ·
      refine ⟨by show v_65.fst + (1 : Nat) ≤ half d; omega, ?_⟩
      have h46 : D2 d := by
       exact h38.2.1
      refine ⟨h46, by first | omega | (dsimp only; omega), ?_⟩
      have h47 : z87.length = v_65.fst + (1 : Nat) := by
       have D := h38.2.1
       have di := D.in
       have hh : half d = d.length / 64 / 2 := rfl
       have s := slo_1 d
       have hx : ys_77 = blk d (slo d 1 + (v_65.fst : Int)) := by
        rw [h41, show n73 = slo d 1 + (v_65.fst : Int) by omega]
        exact rd_is D (by omega) (by omega)
       exact (sn_step h38.2.2.2.2.2.1 h38.2.2.2.1 hx h42 qz87).2
      refine ⟨h47, by first | omega | (dsimp only; omega), ?_⟩
      have h48 : SnI d (1 : Int) (v_65.fst + (1 : Nat)) z87 := by
       have D := h38.2.1
       have di := D.in
       have hh : half d = d.length / 64 / 2 := rfl
       have s := slo_1 d
       have hx : ys_77 = blk d (slo d 1 + (v_65.fst : Int)) := by
        rw [h41, show n73 = slo d 1 + (v_65.fst : Int) by omega]
        exact rd_is D (by omega) (by omega)
       exact (sn_step h38.2.2.2.2.2.1 h38.2.2.2.1 hx h42 qz87).1
      refine ⟨h48, ?_⟩
      refine ⟨?_, ?_⟩
      ·
       refine ⟨by first | omega | (dsimp only; omega), by show (0 : Int) ≤ v_65.snd.snd.snd.snd.fst; omega, ?_⟩
       exact by show v_65.snd.snd.snd.snd.fst ≤ (3 : Int); omega
      refine ⟨by show v_65.snd.snd.snd.snd.snd.snd.length = half d; omega, ?_⟩
      exact h38.2.2.2.2.2.2.2.2
     exact by show half d - (v_65.fst + (1 : Nat)) < half d - v_65.fst; omega
    refine ⟨by first | omega | (dsimp only; omega), ?_⟩
    intro z92 qz92 n94 q94
    first | (rw [wrI64] at q94; rotate_left 1; · omega) | rw [IntKind.wrap_i64] at q94
    intro ⟨l94, u94⟩
    refine ⟨(v_65.fst + (1 : Nat), z92, v_65.snd.snd.fst, v_65.snd.snd.snd.fst, v_65.snd.snd.snd.snd.fst, v_65.snd.snd.snd.snd.snd.fst, v_65.snd.snd.snd.snd.snd.snd), rfl, rfl, rfl, rfl, by show n94 = (↑(v_65.fst + (1 : Nat)) : Int); omega, rfl, rfl, rfl, rfl, rfl, rfl, rfl, rfl, rfl, rfl, rfl, rfl, ?_⟩
    refine ⟨?_, ?_⟩
    ·
     refine ⟨by show v_65.fst + (1 : Nat) ≤ half d; omega, ?_⟩
     have h49 : D2 d := by
      exact h38.2.1
     refine ⟨h49, by first | omega | (dsimp only; omega), ?_⟩
     have h50 : z92.length = v_65.fst + (1 : Nat) := by
      have D := h38.2.1
      have di := D.in
      have hh : half d = d.length / 64 / 2 := rfl
      have s := slo_1 d
      have hx : ys_77 = blk d (slo d 1 + (v_65.fst : Int)) := by
       rw [h41, show n73 = slo d 1 + (v_65.fst : Int) by omega]
       exact rd_is D (by omega) (by omega)
      exact (sn_step h38.2.2.2.2.2.1 h38.2.2.2.1 hx h42 qz92).2
     refine ⟨h50, by first | omega | (dsimp only; omega), ?_⟩
     have h51 : SnI d (1 : Int) (v_65.fst + (1 : Nat)) z92 := by
      have D := h38.2.1
      have di := D.in
      have hh : half d = d.length / 64 / 2 := rfl
      have s := slo_1 d
      have hx : ys_77 = blk d (slo d 1 + (v_65.fst : Int)) := by
       rw [h41, show n73 = slo d 1 + (v_65.fst : Int) by omega]
       exact rd_is D (by omega) (by omega)
      exact (sn_step h38.2.2.2.2.2.1 h38.2.2.2.1 hx h42 qz92).1
     refine ⟨h51, ?_⟩
     refine ⟨?_, ?_⟩
     ·
      refine ⟨by first | omega | (dsimp only; omega), by show (0 : Int) ≤ v_65.snd.snd.snd.snd.fst; omega, ?_⟩
      exact by show v_65.snd.snd.snd.snd.fst ≤ (3 : Int); omega
     refine ⟨by show v_65.snd.snd.snd.snd.snd.snd.length = half d; omega, ?_⟩
     exact h38.2.2.2.2.2.2.2.2
    exact by show half d - (v_65.fst + (1 : Nat)) < half d - v_65.fst; omega
   refine ⟨?_, ?_⟩
   ·
    refine ⟨by first | omega | (dsimp only; omega), by first | omega | (dsimp only; omega), ?_⟩
    refine ⟨?_, ?_⟩
    ·
     refine ⟨by first | omega | (dsimp only; omega), ?_⟩
     intro z97 qz97 n99 q99
     first | (rw [wrI64] at q99; rotate_left 1; · omega) | rw [IntKind.wrap_i64] at q99
     intro ⟨l99, u99⟩
     refine ⟨(v_65.fst + (1 : Nat), z97, v_65.snd.snd.fst, v_65.snd.snd.snd.fst, v_65.snd.snd.snd.snd.fst, v_65.snd.snd.snd.snd.snd.fst, v_65.snd.snd.snd.snd.snd.snd), rfl, rfl, rfl, rfl, by show n99 = (↑(v_65.fst + (1 : Nat)) : Int); omega, rfl, rfl, rfl, rfl, rfl, rfl, rfl, rfl, rfl, rfl, rfl, rfl, ?_⟩
     refine ⟨?_, ?_⟩
     ·
      refine ⟨by show v_65.fst + (1 : Nat) ≤ half d; omega, ?_⟩
      have h52 : D2 d := by
       exact h38.2.1
      refine ⟨h52, by first | omega | (dsimp only; omega), ?_⟩
      have h53 : z97.length = v_65.fst + (1 : Nat) := by
       have D := h38.2.1
       have di := D.in
       have hh : half d = d.length / 64 / 2 := rfl
       have s := slo_1 d
       have hx : ys_77 = blk d (slo d 1 + (v_65.fst : Int)) := by
        rw [h41, show n73 = slo d 1 + (v_65.fst : Int) by omega]
        exact rd_is D (by omega) (by omega)
       exact (sn_step h38.2.2.2.2.2.1 h38.2.2.2.1 hx h42 qz97).2
      refine ⟨h53, by first | omega | (dsimp only; omega), ?_⟩
      have h54 : SnI d (1 : Int) (v_65.fst + (1 : Nat)) z97 := by
       have D := h38.2.1
       have di := D.in
       have hh : half d = d.length / 64 / 2 := rfl
       have s := slo_1 d
       have hx : ys_77 = blk d (slo d 1 + (v_65.fst : Int)) := by
        rw [h41, show n73 = slo d 1 + (v_65.fst : Int) by omega]
        exact rd_is D (by omega) (by omega)
       exact (sn_step h38.2.2.2.2.2.1 h38.2.2.2.1 hx h42 qz97).1
      refine ⟨h54, ?_⟩
      refine ⟨?_, ?_⟩
      ·
       refine ⟨by first | omega | (dsimp only; omega), by show (0 : Int) ≤ v_65.snd.snd.snd.snd.fst; omega, ?_⟩
       exact by show v_65.snd.snd.snd.snd.fst ≤ (3 : Int); omega
      refine ⟨by show v_65.snd.snd.snd.snd.snd.snd.length = half d; omega, ?_⟩
      exact h38.2.2.2.2.2.2.2.2
     exact by show half d - (v_65.fst + (1 : Nat)) < half d - v_65.fst; omega
    refine ⟨by first | omega | (dsimp only; omega), ?_⟩
    intro z102 qz102 n104 q104
    first | (rw [wrI64] at q104; rotate_left 1; · omega) | rw [IntKind.wrap_i64] at q104
    intro ⟨l104, u104⟩
    refine ⟨(v_65.fst + (1 : Nat), z102, v_65.snd.snd.fst, v_65.snd.snd.snd.fst, v_65.snd.snd.snd.snd.fst, v_65.snd.snd.snd.snd.snd.fst, v_65.snd.snd.snd.snd.snd.snd), rfl, rfl, rfl, rfl, by show n104 = (↑(v_65.fst + (1 : Nat)) : Int); omega, rfl, rfl, rfl, rfl, rfl, rfl, rfl, rfl, rfl, rfl, rfl, rfl, ?_⟩
    refine ⟨?_, ?_⟩
    ·
     refine ⟨by show v_65.fst + (1 : Nat) ≤ half d; omega, ?_⟩
     have h55 : D2 d := by
      exact h38.2.1
     refine ⟨h55, by first | omega | (dsimp only; omega), ?_⟩
     have h56 : z102.length = v_65.fst + (1 : Nat) := by
      have D := h38.2.1
      have di := D.in
      have hh : half d = d.length / 64 / 2 := rfl
      have s := slo_1 d
      have hx : ys_77 = blk d (slo d 1 + (v_65.fst : Int)) := by
       rw [h41, show n73 = slo d 1 + (v_65.fst : Int) by omega]
       exact rd_is D (by omega) (by omega)
      exact (sn_step h38.2.2.2.2.2.1 h38.2.2.2.1 hx h42 qz102).2
     refine ⟨h56, by first | omega | (dsimp only; omega), ?_⟩
     have h57 : SnI d (1 : Int) (v_65.fst + (1 : Nat)) z102 := by
      have D := h38.2.1
      have di := D.in
      have hh : half d = d.length / 64 / 2 := rfl
      have s := slo_1 d
      have hx : ys_77 = blk d (slo d 1 + (v_65.fst : Int)) := by
       rw [h41, show n73 = slo d 1 + (v_65.fst : Int) by omega]
       exact rd_is D (by omega) (by omega)
      exact (sn_step h38.2.2.2.2.2.1 h38.2.2.2.1 hx h42 qz102).1
     refine ⟨h57, ?_⟩
     refine ⟨?_, ?_⟩
     ·
      refine ⟨by first | omega | (dsimp only; omega), by show (0 : Int) ≤ v_65.snd.snd.snd.snd.fst; omega, ?_⟩
      exact by show v_65.snd.snd.snd.snd.fst ≤ (3 : Int); omega
     refine ⟨by show v_65.snd.snd.snd.snd.snd.snd.length = half d; omega, ?_⟩
     exact h38.2.2.2.2.2.2.2.2
    exact by show half d - (v_65.fst + (1 : Nat)) < half d - v_65.fst; omega
   refine ⟨by first | omega | (dsimp only; omega), ?_⟩
   intro z107 qz107
   refine ⟨by first | omega | (dsimp only; omega), by first | omega | (dsimp only; omega), ?_⟩
   intro n109 q109
   first | (rw [wrI64] at q109; rotate_left 1; · omega) | rw [IntKind.wrap_i64] at q109
   intro ⟨l109, u109⟩
   refine ⟨(v_65.fst + (1 : Nat), z107, v_65.snd.snd.fst, v_65.snd.snd.snd.fst, v_65.snd.snd.snd.snd.fst, v_65.snd.snd.snd.snd.snd.fst, v_65.snd.snd.snd.snd.snd.snd), rfl, rfl, rfl, rfl, by show n109 = (↑(v_65.fst + (1 : Nat)) : Int); omega, rfl, rfl, rfl, rfl, rfl, rfl, rfl, rfl, rfl, rfl, rfl, rfl, ?_⟩
   refine ⟨?_, ?_⟩
   ·
    refine ⟨by show v_65.fst + (1 : Nat) ≤ half d; omega, ?_⟩
    have h58 : D2 d := by
     exact h38.2.1
    refine ⟨h58, by first | omega | (dsimp only; omega), ?_⟩
    have h59 : z107.length = v_65.fst + (1 : Nat) := by
     have D := h38.2.1
     have di := D.in
     have hh : half d = d.length / 64 / 2 := rfl
     have s := slo_1 d
     have hx : ys_77 = blk d (slo d 1 + (v_65.fst : Int)) := by
      rw [h41, show n73 = slo d 1 + (v_65.fst : Int) by omega]
      exact rd_is D (by omega) (by omega)
     exact (sn_step h38.2.2.2.2.2.1 h38.2.2.2.1 hx h42 qz107).2
    refine ⟨h59, by first | omega | (dsimp only; omega), ?_⟩
    have h60 : SnI d (1 : Int) (v_65.fst + (1 : Nat)) z107 := by
     have D := h38.2.1
     have di := D.in
     have hh : half d = d.length / 64 / 2 := rfl
     have s := slo_1 d
     have hx : ys_77 = blk d (slo d 1 + (v_65.fst : Int)) := by
      rw [h41, show n73 = slo d 1 + (v_65.fst : Int) by omega]
      exact rd_is D (by omega) (by omega)
     exact (sn_step h38.2.2.2.2.2.1 h38.2.2.2.1 hx h42 qz107).1
    refine ⟨h60, ?_⟩
    refine ⟨?_, ?_⟩
    ·
     refine ⟨by first | omega | (dsimp only; omega), by show (0 : Int) ≤ v_65.snd.snd.snd.snd.fst; omega, ?_⟩
     exact by show v_65.snd.snd.snd.snd.fst ≤ (3 : Int); omega
    refine ⟨by show v_65.snd.snd.snd.snd.snd.snd.length = half d; omega, ?_⟩
    exact h38.2.2.2.2.2.2.2.2
   exact by show half d - (v_65.fst + (1 : Nat)) < half d - v_65.fst; omega
  refine ⟨by first | omega | (dsimp only; omega), by first | omega | (dsimp only; omega), ?_⟩
  refine ⟨?_, ?_⟩
  ·
   have h61 : B64 v_65.snd.fst := by
    exact sn_b64 h38.2.2.2.2.2.1 (by omega) h38.2.1 (by omega)
   refine ⟨h61, ?_⟩
   exact by omega
  refine ⟨?_, ?_⟩
  ·
   intro h62
   refine ⟨(false, (0 : Int), (0 : Int), [], List.take v_65.fst (List.drop (0 : Nat) v_65.snd.fst), v_65.snd.snd.fst, v_65.snd.snd.snd.fst, v_65.snd.snd.snd.snd.fst, v_65.snd.snd.snd.snd.snd.fst, v_65.snd.snd.snd.snd.snd.snd), rfl, rfl, rfl, rfl, rfl, rfl, rfl, rfl, rfl, rfl, rfl, rfl, rfl, ?_⟩
   have h63 : D2 d := by
    exact h38.2.1
   refine ⟨h63, ?_⟩
   refine ⟨?_, ?_⟩
   ·
    refine ⟨by first | omega | (dsimp only; omega), by show (0 : Int) ≤ (0 : Int); omega, ?_⟩
    exact by show (0 : Int) ≤ (3 : Int); omega
   have h64 : (List.take v_65.fst (List.drop (0 : Nat) v_65.snd.fst)).length = half d := by
    rw [List.drop_zero, List.length_take]
    omega
   refine ⟨h64, ?_⟩
   have h65 : Sl1 d (1 : Int) false (0 : Int) (0 : Int) [] (List.take v_65.fst (List.drop (0 : Nat) v_65.snd.fst)) := by
    exact sl_of h38.2.2.2.2.2.1 (by omega) h38.2.2.2.1 h62 rfl
   refine ⟨h65, ?_⟩
   refine ⟨?_, ?_⟩
   ·
    refine ⟨by first | omega | (dsimp only; omega), by show (0 : Int) ≤ v_65.snd.snd.snd.snd.fst; omega, ?_⟩
    exact by show v_65.snd.snd.snd.snd.fst ≤ (3 : Int); omega
   refine ⟨by show v_65.snd.snd.snd.snd.snd.snd.length = half d; omega, ?_⟩
   exact h38.2.2.2.2.2.2.2.2
  intro g_113 m_114 ps_115 h66
  refine ⟨(true, g_113, m_114, ps_115, List.take v_65.fst (List.drop (0 : Nat) v_65.snd.fst), v_65.snd.snd.fst, v_65.snd.snd.snd.fst, v_65.snd.snd.snd.snd.fst, v_65.snd.snd.snd.snd.snd.fst, v_65.snd.snd.snd.snd.snd.snd), rfl, rfl, rfl, rfl, rfl, rfl, rfl, rfl, rfl, rfl, rfl, rfl, rfl, ?_⟩
  have h67 : D2 d := by
   exact h38.2.1
  refine ⟨h67, ?_⟩
  refine ⟨?_, ?_⟩
  ·
   refine ⟨?_, ?_⟩
   ·
    have h68 : (0 : Int) ≤ g_113 := by
     have := h66.in
     try dsimp only
     omega
    refine ⟨h68, ?_⟩
    have := h66.in
    try dsimp only
    omega
   have h69 : (0 : Int) ≤ m_114 := by
    have := h66.in
    try dsimp only
    omega
   refine ⟨h69, ?_⟩
   have := h66.in
   try dsimp only
   omega
  have h70 : (List.take v_65.fst (List.drop (0 : Nat) v_65.snd.fst)).length = half d := by
   rw [List.drop_zero, List.length_take]
   omega
  refine ⟨h70, ?_⟩
  have h71 : Sl1 d (1 : Int) true g_113 m_114 ps_115 (List.take v_65.fst (List.drop (0 : Nat) v_65.snd.fst)) := by
   exact sl_of h38.2.2.2.2.2.1 (by omega) h38.2.2.2.1 h66 rfl
  refine ⟨h71, ?_⟩
  refine ⟨?_, ?_⟩
  ·
   refine ⟨by first | omega | (dsimp only; omega), by show (0 : Int) ≤ v_65.snd.snd.snd.snd.fst; omega, ?_⟩
   exact by show v_65.snd.snd.snd.snd.fst ≤ (3 : Int); omega
  refine ⟨by show v_65.snd.snd.snd.snd.snd.snd.length = half d; omega, ?_⟩
  exact h38.2.2.2.2.2.2.2.2
 intro v_117 h72
 exact hk.2 h72.1 _ _ _ _ _ _ _ _ _ _ ⟨h72.2.2.2.2.2.2, h72.2.2.2.1⟩ h72.2.2.2.2.1 h72.2.1 ⟨h72.2.2.2.2.2.1, h72.2.2.1⟩
theorem slots_ok : Holds Try.prog 43 slotsS := by
  refine fn_sound (env := { mkEnv F9 with fuel := 3, mode := md [(18000, 1)] }) (tab_ok F9_ok) Try.func43 Try.call43 fun args k h => ?_
  match args, h with
  | [.agg [.sl 0 d]], h => exact ⟨by kernel_rfl, slotsLoops d, slotsCuts d, .cast (by kernel_rfl) (slots_vc d k h)⟩
end Go.Proofs.Ytcdflgfhkohldaa
