import Derived.Test.YtcdflgfhkohldaaSkA
namespace Go.Proofs.Ytcdflgfhkohldaa
open Go Go.Eng Go.Rw Go.Lk Go.Proofs
open Go.Bk hiding take_step drop_step set_mid
open Go.St hiding take_step
set_option linter.unusedVariables false
set_option maxHeartbeats 2000000 in
theorem keeps1_vc (n : Int) (n0 : -9223372036854775808 ≤ n) (n1 : n ≤ 9223372036854775807) (d : List UInt8) (m : Int) (m0 : 0 ≤ m) (m1 : m ≤ 255) (l : List Plan) (i : Int) (i0 : -9223372036854775808 ≤ i) (i1 : i ≤ 9223372036854775807) (k : AV → List (Option Blk) → List Blk → Prop) (hk : k (.bool true) [] []) : ∀ (n1 : Int), (n1 = (↑d.length : Int)) → (inK .i64 n1) → br (decide (n1 > 5000)) ((true = true) ∧ (k (.bool true) [] [])) (∀ (r_4 : Bool), ((r_4 = false) → (PlOk l)) → br (bif false then true else r_4) ((k (.bool true) [] [])) ((d.length ≤ 5000) ∧ (PlOk l) ∧ ∃ (v : Int), (n = n) ∧ (m = m) ∧ (l = l) ∧ (i = i) ∧ (l = l) ∧ (d = d) ∧ (d = d) ∧ (True))) := by
 intro n1 q1 ⟨l1, u1⟩
 refine brd (fun c1 => ?_) (fun c1 => ?_)
 ·
  refine ⟨by with_reducible rfl, ?_⟩
  exact hk
 intro r_4 h2
 refine br_intro (fun c3 => ?_) (fun c3 => ?_)
 ·
  exact hk
 refine ⟨by first | omega | (dsimp only; omega), ?_⟩
 have h4 : PlOk l := by
  first | exact h2 (by assumption) | exact h2 rfl | (cases r_4 <;> simp_all)
 refine ⟨h4, (0 : Int), rfl, rfl, rfl, rfl, rfl, rfl, rfl, ?_⟩
 exact by show True; decide
set_option maxHeartbeats 2000000 in
theorem keeps2_vc (n : Int) (n0 : -9223372036854775808 ≤ n) (n1 : n ≤ 9223372036854775807) (d : List UInt8) (m : Int) (m0 : 0 ≤ m) (m1 : m ≤ 255) (l : List Plan) (i : Int) (i0 : -9223372036854775808 ≤ i) (i1 : i ≤ 9223372036854775807) (x : Pin4) (yb : Nat) (k : AV → List (Option Blk) → List Blk → Prop) (hk : k (.bool true) [] []) : ∀ (e_1 : Int), ∀ (ys_2 : List UInt8), (e_1 = fmtE n) → (ys_2 = fmtO n) → (0 ≤ e_1 ∧ e_1 ≤ 190) → ∀ (e_6 : Int), ∀ (ys_7 : List UInt8), (e_6 = fmtE n) → (ys_7 = fmtO n) → (0 ≤ e_6 ∧ e_6 ≤ 190) → ∀ (e_11 : Int), ∀ (g_12 : Int), ∀ (m_13 : Int), ∀ (ps_14 : List Plan), (RdR d e_11 g_12 m_13 ps_14) → (0 ≤ e_11 ∧ e_11 ≤ 190) → (0 ≤ g_12 ∧ g_12 ≤ 4611686018427387903) → (0 ≤ m_13 ∧ m_13 ≤ 3) → (ps_14.length ≤ 8) → ∀ (e_20 : Int), ∀ (g_21 : Int), ∀ (m_22 : Int), ∀ (ps_23 : List Plan), (RdR d e_20 g_21 m_22 ps_23) → (0 ≤ e_20 ∧ e_20 ≤ 190) → (0 ≤ g_21 ∧ g_21 ≤ 4611686018427387903) → (0 ≤ m_22 ∧ m_22 ≤ 3) → (ps_23.length ≤ 8) → ((0 ≤ m) ∧ (m ≤ 255)) ∧ ∀ (e_29 : Int), ∀ (ys_30 : List YPut), ∀ (n_31 : Nat), (PtR d m l e_29 (List.map YPut.old ys_30)) → (YPs yb ys_30) → (ys_30.length = n_31) → (n_31 ≤ 32) → (0 ≤ e_29 ∧ e_29 ≤ 190) → ((0 ≤ m) ∧ (m ≤ 255)) ∧ ∀ (e_37 : Int), ∀ (ps_38 : List Put), (PtR d m l e_37 ps_38) → (0 ≤ e_37 ∧ e_37 ≤ 190) → (ps_38.length ≤ 32) → ∀ (e_42 : Int), ∀ (g_43 : Int), ∀ (m_44 : Int), ∀ (ps_45 : List Plan), (SlR d i e_42 g_43 m_44 ps_45) → (0 ≤ e_42 ∧ e_42 ≤ 190) → (0 ≤ g_43 ∧ g_43 ≤ 4611686018427387903) → (0 ≤ m_44 ∧ m_44 ≤ 3) → (ps_45.length ≤ 8) → ∀ (e_51 : Int), ∀ (g_52 : Int), ∀ (m_53 : Int), ∀ (ps_54 : List Plan), (SlR d i e_51 g_52 m_53 ps_54) → (0 ≤ e_51 ∧ e_51 ≤ 190) → (0 ≤ g_52 ∧ g_52 ≤ 4611686018427387903) → (0 ≤ m_53 ∧ m_53 ≤ 3) → (ps_54.length ≤ 8) → br (bif !{ data := ys_2.toArray : ByteArray }.data.toList == { data := ys_7.toArray : ByteArray }.data.toList then true else e_1 != e_6) ((true = true) ∧ (true = true) ∧ (true = true) ∧ (k (.bool false) [] [])) (∀ (r_60 : Bool), (r_60 = true ↔ g_12 = g_21 ∧ m_13 = m_22 ∧ ps_14 = ps_23) → br (bif bif false then true else !r_60 then true else e_11 != e_20) ((true = true) ∧ (true = true) ∧ (k (.bool false) [] [])) (∀ (r_62 : Bool), (r_62 = true ↔ List.map YPut.old (List.take n_31 (List.drop 0 ys_30)) = ps_38) → br (bif bif false then true else !r_62 then true else e_29 != e_37) ((true = true) ∧ (k (.bool false) [] [])) (∀ (r_64 : Bool), (r_64 = true ↔ g_43 = g_52 ∧ m_44 = m_53 ∧ ps_45 = ps_54) → br (bif bif false then true else !r_64 then true else e_42 != e_51) ((k (.bool false) [] [])) ((∃ (v : Int × Nat × List WB), (x.a = x.a) ∧ (x.b = x.b) ∧ (0 = 0) ∧ (n_31 = v.snd.fst) ∧ (0 = v.fst) ∧ (x.c = x.c) ∧ (x.e = x.e) ∧ (List.map YPut.wild ys_30 = v.snd.snd) ∧ ((0 ≤ v.fst) ∧ (v.fst ≤ (↑v.snd.fst : Int))) ∧ (Wil yb v.snd.fst v.snd.snd)) ∧ ∀ (v_66 : Int × Nat × List WB), ((0 ≤ v_66.fst ∧ v_66.fst ≤ (↑v_66.snd.fst : Int)) ∧ Wil yb v_66.snd.fst v_66.snd.snd) → ∀ (n68 : Int), (n68 = (↑v_66.snd.fst : Int)) → (inK .i64 n68) → br (decide (v_66.fst < n68)) ((∃ (v : Int × Int × Nat × List WB), (x.a = x.a) ∧ (x.b = x.b) ∧ (0 = 0) ∧ (v_66.snd.fst = v.snd.snd.fst) ∧ (v_66.fst = v.snd.fst) ∧ (0 = v.fst) ∧ (x.c = x.c) ∧ (x.e = x.e) ∧ (v_66.snd.snd = v.snd.snd.snd) ∧ ((0 ≤ v.fst) ∧ (v.fst ≤ (↑(v.snd.snd.snd.getD v.snd.fst.toNat (dflt 16)).n : Int))) ∧ ((0 ≤ v.snd.fst) ∧ (v.snd.fst < (↑v.snd.snd.fst : Int))) ∧ (v.snd.fst.toNat * 2000000 + v.snd.snd.fst = v_66.fst.toNat * 2000000 + v_66.snd.fst) ∧ (Wil yb v.snd.snd.fst v.snd.snd.snd)) ∧ ∀ (v_71 : Int × Int × Nat × List WB), ((0 ≤ v_71.fst ∧ v_71.fst ≤ (↑(v_71.snd.snd.snd.getD v_71.snd.fst.toNat (dflt 16)).n : Int)) ∧ (0 ≤ v_71.snd.fst ∧ v_71.snd.fst < (↑v_71.snd.snd.fst : Int)) ∧ v_71.snd.fst.toNat * 2000000 + v_71.snd.snd.fst = v_66.fst.toNat * 2000000 + v_66.snd.fst ∧ Wil yb v_71.snd.snd.fst v_71.snd.snd.snd) → (0 ≤ v_71.snd.fst) ∧ (v_71.snd.fst < (↑v_71.snd.snd.fst : Int)) ∧ (0 + v_71.snd.fst.toNat < v_71.snd.snd.snd.length) ∧ ∀ (n73 : Int), (n73 = (↑(v_71.snd.snd.snd.getD (0 + v_71.snd.fst.toNat) (dflt 16)).n : Int)) → (inK .i64 n73) → br (decide (v_71.fst < n73)) ((0 ≤ v_71.snd.fst) ∧ (v_71.snd.fst < (↑v_71.snd.snd.fst : Int)) ∧ (0 + v_71.snd.fst.toNat < v_71.snd.snd.snd.length) ∧ (0 ≤ v_71.fst) ∧ (v_71.fst < (↑(v_71.snd.snd.snd.getD (0 + v_71.snd.fst.toNat) (dflt 16)).n : Int)) ∧ (yb ≤ (v_71.snd.snd.snd.getD (0 + v_71.snd.fst.toNat) (dflt 16)).nb) ∧ ∀ (n76 : Int), (n76 = IntKind.i64.wrap (v_71.fst + 1)) → (inK .i64 n76) → ∃ (v' : Int × Int × Nat × List WB), (x.a = x.a) ∧ (x.b = x.b) ∧ (0 = 0) ∧ (v_71.snd.snd.fst = v'.snd.snd.fst) ∧ (v_71.snd.fst = v'.snd.fst) ∧ (n76 = v'.fst) ∧ (x.c = x.c) ∧ (x.e = x.e) ∧ (v_71.snd.snd.snd = v'.snd.snd.snd) ∧ (((0 ≤ v'.fst) ∧ (v'.fst ≤ (↑(v'.snd.snd.snd.getD v'.snd.fst.toNat (dflt 16)).n : Int))) ∧ ((0 ≤ v'.snd.fst) ∧ (v'.snd.fst < (↑v'.snd.snd.fst : Int))) ∧ (v'.snd.fst.toNat * 2000000 + v'.snd.snd.fst = v_66.fst.toNat * 2000000 + v_66.snd.fst) ∧ (Wil yb v'.snd.snd.fst v'.snd.snd.snd)) ∧ (((↑(v'.snd.snd.snd.getD v'.snd.fst.toNat (dflt 16)).n : Int) - v'.fst).toNat < ((↑(v_71.snd.snd.snd.getD v_71.snd.fst.toNat (dflt 16)).n : Int) - v_71.fst).toNat)) (∀ (n79 : Int), (n79 = IntKind.i64.wrap (v_71.snd.fst + 1)) → (inK .i64 n79) → ∃ (v' : Int × Nat × List WB), (x.a = x.a) ∧ (x.b = x.b) ∧ (0 = 0) ∧ (v_71.snd.snd.fst = v'.snd.fst) ∧ (n79 = v'.fst) ∧ (x.c = x.c) ∧ (x.e = x.e) ∧ (v_71.snd.snd.snd = v'.snd.snd) ∧ (((0 ≤ v'.fst) ∧ (v'.fst ≤ (↑v'.snd.fst : Int))) ∧ (Wil yb v'.snd.fst v'.snd.snd)) ∧ (((↑v'.snd.fst : Int) - v'.fst).toNat < ((↑v_66.snd.fst : Int) - v_66.fst).toNat))) ((x.a = x.a) ∧ (x.b = x.b) ∧ (x.c = x.c) ∧ (x.e = x.e) ∧ (True)))))) := by
 intro e_1 ys_2 h1 h2 ⟨a3, b3⟩ e_6 ys_7 h4 h5 ⟨a6, b6⟩ e_11 g_12 m_13 ps_14 h7 ⟨a8, b8⟩ ⟨a9, b9⟩ ⟨a10, b10⟩ h11 e_20 g_21 m_22 ps_23 h12 ⟨a13, b13⟩ ⟨a14, b14⟩ ⟨a15, b15⟩ h16
 refine ⟨by exact ⟨by assumption, by assumption⟩, ?_⟩
 intro e_29 ys_30 n_31 h17 h18 h19 h20 ⟨a21, b21⟩
 refine ⟨by exact ⟨by assumption, by assumption⟩, ?_⟩
 intro e_37 ps_38 h22 ⟨a23, b23⟩ h24 e_42 g_43 m_44 ps_45 h25 ⟨a26, b26⟩ ⟨a27, b27⟩ ⟨a28, b28⟩ h29 e_51 g_52 m_53 ps_54 h30 ⟨a31, b31⟩ ⟨a32, b32⟩ ⟨a33, b33⟩ h34
 refine br_intro (fun c35 => ?_) (fun c35 => ?_)
 ·
  simp at c35
  refine ⟨by with_reducible rfl, by with_reducible rfl, by with_reducible rfl, ?_⟩
  exfalso
  rcases c35 with c | c
  ·
   exact c (h2.trans h5.symm)
  exact c (h1.trans h4.symm)
 simp at c35
 intro r_60 h36
 refine br_intro (fun c37 => ?_) (fun c37 => ?_)
 ·
  simp at c37
  refine ⟨by with_reducible rfl, by with_reducible rfl, ?_⟩
  exfalso
  obtain ⟨u1, u2, u3, u4⟩ := h7.uniq h12
  rcases c37 with c | c
  ·
   rw [h36.2 ⟨u2, u3, u4⟩] at c; cases c
  exact c u1
 simp at c37
 intro r_62 h38
 refine br_intro (fun c39 => ?_) (fun c39 => ?_)
 ·
  simp at c39
  refine ⟨by with_reducible rfl, ?_⟩
  exfalso
  obtain ⟨u1, u2⟩ := h17.uniq h22
  rcases c39 with c | c
  ·
   rw [h38.2 (by rw [List.drop_zero, ← h19, List.take_length]; exact u2)] at c; cases c
  exact c u1
 simp at c39
 intro r_64 h40
 refine br_intro (fun c41 => ?_) (fun c41 => ?_)
 ·
  simp at c41
  exfalso
  obtain ⟨u1, u2, u3, u4⟩ := h25.uniq h30
  rcases c41 with c | c
  ·
   rw [h40.2 ⟨u2, u3, u4⟩] at c; cases c
  exact c u1
 simp at c41
 refine ⟨?_, ?_⟩
 ·
  refine ⟨((0 : Int), n_31, List.map YPut.wild ys_30), rfl, rfl, rfl, rfl, rfl, rfl, rfl, rfl, by first | omega | (dsimp only; omega), ?_⟩
  exact wil_yps h18 h19 h20
 intro v_66 h42 n68 q68 ⟨l68, u68⟩
 refine brd (fun c43 => ?_) (fun c43 => ?_)
 ·
  refine ⟨?_, ?_⟩
  ·
   refine ⟨((0 : Int), v_66.fst, v_66.snd.fst, v_66.snd.snd), rfl, rfl, rfl, rfl, rfl, rfl, rfl, rfl, rfl, by first | omega | (dsimp only; omega), by first | omega | (dsimp only; omega), rfl, ?_⟩
   exact h42.2
  intro v_71 h44
  refine ⟨by first | omega | (dsimp only; omega), by first | omega | (dsimp only; omega), ?_⟩
  have h45 : (0 : Nat) + v_71.snd.fst.toNat < v_71.snd.snd.snd.length := by
   have := h44.2.2.2.c1; omega
  refine ⟨h45, ?_⟩
  intro n73 q73 ⟨l73, u73⟩
  refine brd (fun c46 => ?_) (fun c46 => ?_)
  ·
   refine ⟨by first | omega | (dsimp only; omega), by first | omega | (dsimp only; omega), by assumption, by first | omega | (dsimp only; omega), by first | omega | (dsimp only; omega), ?_⟩
   have h47 : yb ≤ (v_71.snd.snd.snd.getD ((0 : Nat) + v_71.snd.fst.toNat) (dflt (16 : Nat))).nb := by
    rw [Nat.zero_add]; exact h44.2.2.2.c2 _ (by omega)
   refine ⟨h47, ?_⟩
   intro n76 q76
   first | (rw [wrI64] at q76; rotate_left 1; · omega) | rw [IntKind.wrap_i64] at q76
   intro ⟨l76, u76⟩
   refine ⟨(n76, v_71.snd.fst, v_71.snd.snd.fst, v_71.snd.snd.snd), rfl, rfl, rfl, rfl, rfl, rfl, rfl, rfl, rfl, ?_⟩
   refine ⟨?_, ?_⟩
   ·
    refine ⟨?_, ?_⟩
    ·
     refine ⟨by show (0 : Int) ≤ n76; omega, ?_⟩
     show n76 ≤ (↑(v_71.snd.snd.snd.getD v_71.snd.fst.toNat (dflt (16 : Nat))).n : Int); rw [Nat.zero_add] at q73; omega
    refine ⟨by first | omega | (dsimp only; omega), by show v_71.snd.fst.toNat * (2000000 : Nat) + v_71.snd.snd.fst = v_66.fst.toNat * (2000000 : Nat) + v_66.snd.fst; omega, ?_⟩
    exact h44.2.2.2
   show ((↑(v_71.snd.snd.snd.getD v_71.snd.fst.toNat (dflt (16 : Nat))).n : Int) - n76).toNat < ((↑(v_71.snd.snd.snd.getD v_71.snd.fst.toNat (dflt (16 : Nat))).n : Int) - v_71.fst).toNat; rw [Nat.zero_add] at q73; omega
  intro n79 q79
  first | (rw [wrI64] at q79; rotate_left 1; · omega) | rw [IntKind.wrap_i64] at q79
  intro ⟨l79, u79⟩
  refine ⟨(n79, v_71.snd.snd.fst, v_71.snd.snd.snd), rfl, rfl, rfl, rfl, rfl, rfl, rfl, rfl, ?_⟩
  refine ⟨?_, ?_⟩
  ·
   refine ⟨by first | omega | (dsimp only; omega), ?_⟩
   exact h44.2.2.2
  have := h44.2.2.2.c3; have := h42.2.c3; show ((↑v_71.snd.snd.fst : Int) - n79).toNat < ((↑v_66.snd.fst : Int) - v_66.fst).toNat; omega
 refine ⟨by with_reducible rfl, by with_reducible rfl, by with_reducible rfl, by with_reducible rfl, ?_⟩
 exact by decide
set_option maxHeartbeats 2000000 in
theorem keeps3_vc (d : List UInt8) (l : List Plan) (k : AV → List (Option Blk) → List Blk → Prop) (hk : k (.bool true) [] []) : br ({ data := d.toArray : ByteArray }.data.toList == { data := d.toArray : ByteArray }.data.toList) (∀ (r_1 : Bool), (r_1 = true ↔ l = l) → (k (.bool (bif true then r_1 else false)) [] [])) ((false = false) ∧ (k (.bool false) [] [])) := by
 refine br_intro (fun c1 => ?_) (fun c1 => ?_)
 ·
  simp at c1
  intro r_1 h2
  exact k_true hk (by rw [cond_true]; exact h2.2 rfl)
 simp at c1
theorem sk_parts : seqs skBody = skL1 ++ (skL2 ++ skL3) := by
  unfold skL1 skL2 skL3
  rw [List.take_append_drop, List.take_append_drop]
theorem keeps_ok : Holds Try.prog 4 lawKeeps := by
  refine fn_wild (env := mkEnv W1) (env2 := fun yb => mkEnvW yb (W2 yb)) (fun _ => rfl) rfl (fun _ => rfl) (tab_ok W1_ok) (fun yb => tabN_ok (W2_ok yb)) Try.func4 Try.call4
    (l1 := skL1) (l2 := skL2) (l3 := skL3) (c := skBody) (by kernel_rfl) sk_parts rfl fun args k h => ?_
  match args, h with
  | [.int .i64 n, .agg [.sl 0 d], .int .u8 m, .sl 10 l, .int .i64 i], h =>
    obtain ⟨⟨n0, n1⟩, ⟨m0, m1⟩, ⟨i0, i1⟩, hk⟩ := h
    refine ⟨by kernel_rfl, Int, Pin4, fun _ => skA n d m l i, fun _ => True, fun _ x => skB n d m l i x, fun _ x => skC x, fun _ _ => skD d l, fun _ x => [(x.a, .sl 10 l), (x.b, .sl 10 l), (x.c, .sl 0 d), (x.e, .sl 0 d)],
      fun _ _ => none, fun _ x yb => skLoops x yb, fun _ _ _ _ => none, ?_, ?_, ?_, ?_, ?_⟩
    · intro v w0 im0 im ρ a w h
      have p1 := h.pinSlot rfl 3 (x := .sl 10 l) rfl rfl
      have p2 := p1.pinSlot rfl 12 (x := .sl 10 l) rfl rfl
      obtain ⟨u, p3, f3⟩ := p2.pinCell (id := 1000) (cs := [.sl 0 d]) rfl 0 (x := .sl 0 d) rfl rfl Nat.zero_lt_one
      obtain ⟨u', p4, f4⟩ := p3.pinCell (id := 4002) (cs := [.sl 0 d]) rfl 0 (x := .sl 0 d) rfl rfl Nat.zero_lt_one
      refine ⟨⟨a.tmps.getD 3 undef, a.tmps.getD 12 undef, u, u'⟩, p4, fun p hp => ?_⟩
      simp only [List.mem_cons, List.not_mem_nil, or_false] at hp
      rcases hp with rfl | rfl | rfl | rfl
      · exact h.factSlot rfl 3 (x := .sl 10 l) rfl rfl (Nat.le_of_ble_eq_true (by kernel_rfl))
      · exact h.factSlot rfl 12 (x := .sl 10 l) rfl rfl (Nat.le_of_ble_eq_true (by kernel_rfl))
      · exact f3
      · exact f4
    · intro v x w0 im0 im ρ a w h hF
      have b1 := h.backSlot rfl 3 (u := x.a) (x := .sl 10 l) rfl (hF (x.a, .sl 10 l) (by simp))
      have b2 := b1.backSlot rfl 12 (u := x.b) (x := .sl 10 l) rfl (hF (x.b, .sl 10 l) (by simp))
      have b3 := b2.backCell (id := 1000) (cs := [.val x.c]) rfl 0 (u := x.c) (x := .sl 0 d) rfl (hF (x.c, .sl 0 d) (by simp))
      exact b3.backCell (id := 4002) (cs := [.val x.e]) rfl 0 (u := x.e) (x := .sl 0 d) rfl (hF (x.e, .sl 0 d) (by simp))
    · exact .cast (by kernel_rfl) (keeps1_vc n n0 n1 d m m0 m1 l i i0 i1 k hk)
    · intro v x yb _
      exact .cast (by kernel_rfl) (keeps2_vc n n0 n1 d m m0 m1 l i i0 i1 x yb k hk)
    · intro v x _
      exact .cast (by kernel_rfl) (keeps3_vc d l k hk)
end Go.Proofs.Ytcdflgfhkohldaa
