import Derived.Test.YtcdflgfhkohldaaStG
import Derived.Test.YtcdflgfhkohldaaStCr
namespace Go.Proofs.Ytcdflgfhkohldaa
open Go Go.Eng Go.Rw Go.Lk Go.Proofs
open Go.Bk hiding take_step drop_step set_mid
open Go.St hiding take_step
set_option linter.unusedVariables false
theorem F1r_ok : TabOk Try.prog F1r := ⟨rin_ok, sms05_ok, trivial⟩
set_option maxHeartbeats 2000000 in
theorem rwhole_vc (l : List Plan) (k : AV → List (Option Blk) → List Blk → Prop) (hk : (∀ (e : Int), e = wholeE l → e ≠ (0 : Int) → e = 4 ∨ e = 170 → k (.tup [.nilsl, .int .i64 e]) [] []) ∧ (wholeE l = 0 → ∀ (ys : List UInt8) (n : Nat), ys = wholeO l → ys.length = n → k (.tup [.row 0 0 0 n, .int .i64 0]) [] [.row 0 ys])) : ∀ (n1 : Int), (n1 = (↑l.length : Int)) → (inK .i64 n1) → br (decide (n1 > 8)) ((k (.tup [.nilsl, .int .i64 4]) [] [])) (∀ (n4 : Int), (n4 = (↑l.length : Int)) → (inK .i64 n4) → ((List.take 1 (List.drop 0 [n4])).length ≤ 1000000) ∧ ∀ (ys_7 : List UInt8), ∀ (n_8 : Nat), (ys_7 = sms (List.take 1 (List.drop 0 [n4]))) → (ys_7.length = n_8) → (∃ (v : Nat × Nat × List UInt8), (l = l) ∧ (0 = 0) ∧ (n_8 = v.snd.fst) ∧ ((0 : Int) = (↑v.fst : Int)) ∧ (ys_7 = v.snd.snd) ∧ (v.fst ≤ l.length) ∧ (l.length ≤ 8) ∧ (v.snd.snd.length = v.snd.fst) ∧ (v.snd.fst ≤ 900) ∧ (WO l v.fst v.snd.snd)) ∧ ∀ (v_11 : Nat × Nat × List UInt8), (v_11.fst ≤ l.length ∧ l.length ≤ 8 ∧ v_11.snd.snd.length = v_11.snd.fst ∧ v_11.snd.fst ≤ 900 ∧ WO l v_11.fst v_11.snd.snd) → ∀ (n13 : Int), (n13 = (↑l.length : Int)) → (inK .i64 n13) → br (decide ((↑v_11.fst : Int) < n13)) (((0 : Int) ≤ (↑v_11.fst : Int)) ∧ ((↑v_11.fst : Int) < (↑l.length : Int)) ∧ ∀ (n16 : Int), (n16 = (l.getD (↑v_11.fst : Int).toNat (dflt 10)).cycle) → (inK .i64 n16) → ∀ (r_19 : Bool), (r_19 = true ↔ 1 ≤ n16 ∧ n16 ≤ 1048576) → ∀ (n21 : Int), (n21 = (l.getD (↑v_11.fst : Int).toNat (dflt 10)).offset) → ∀ (n23 : Int), (n23 = (l.getD (↑v_11.fst : Int).toNat (dflt 10)).cycle) → ∀ (n25 : Int), (n25 = IntKind.i64.wrap (n23 - 1)) → br (!r_19) ((true = true) ∧ ∀ (n27 : Int), (n27 = (↑(l.getD (↑v_11.fst : Int).toNat (dflt 10)).splits.length : Int)) → (true = true) ∧ (k (.tup [.nilsl, .int .i64 170]) [] [])) (∀ (r_28 : Bool), (r_28 = true ↔ 0 ≤ n21 ∧ n21 ≤ n25) → ∀ (n30 : Int), (n30 = (↑(l.getD (↑v_11.fst : Int).toNat (dflt 10)).splits.length : Int)) → br (bif false then true else !r_28) ((true = true) ∧ (k (.tup [.nilsl, .int .i64 170]) [] [])) (∀ (r_32 : Bool), (r_32 = true ↔ 1 ≤ n30 ∧ n30 ≤ 8) → br (bif false then true else !r_32) ((k (.tup [.nilsl, .int .i64 170]) [] [])) (∀ (n34 : Int), (n34 = (l.getD (↑v_11.fst : Int).toNat (dflt 10)).cycle) → (inK .i64 n34) → ∀ (n37 : Int), (n37 = (l.getD (↑v_11.fst : Int).toNat (dflt 10)).offset) → (inK .i64 n37) → ∀ (n40 : Int), (n40 = (↑(l.getD (↑v_11.fst : Int).toNat (dflt 10)).splits.length : Int)) → (inK .i64 n40) → ((List.take 3 (List.drop 0 [n34, n37, n40])).length ≤ 1000000) ∧ ∀ (ys_43 : List UInt8), ∀ (n_44 : Nat), (ys_43 = sms (List.take 3 (List.drop 0 [n34, n37, n40]))) → (ys_43.length = n_44) → ((v_11.snd.fst + n_44) * 1 ≤ 140737488355328) ∧ ∀ (z47 : List UInt8), (z47 = List.take v_11.snd.fst v_11.snd.snd ++ List.take n_44 (List.drop 0 ys_43)) → (∃ (v : Nat × Nat × List UInt8), (l = l) ∧ (0 = 0) ∧ (v_11.snd.fst + n_44 = v.snd.fst) ∧ ((↑v_11.fst : Int) = (↑v_11.fst : Int)) ∧ ((0 : Int) = (↑v.fst : Int)) ∧ (z47 = v.snd.snd) ∧ ((l.getD (↑v_11.fst : Int).toNat (dflt 10)).cycle = (l.getD v_11.fst (dflt 10)).cycle) ∧ ((l.getD (↑v_11.fst : Int).toNat (dflt 10)).offset = (l.getD v_11.fst (dflt 10)).offset) ∧ ((l.getD (↑v_11.fst : Int).toNat (dflt 10)).splits = (l.getD v_11.fst (dflt 10)).splits) ∧ (v.fst ≤ (l.getD v_11.fst (dflt 10)).splits.length) ∧ (v.snd.snd.length = v.snd.fst) ∧ (v.snd.fst ≤ 1100) ∧ (WJ l v_11.fst v.fst v.snd.snd)) ∧ ∀ (v_49 : Nat × Nat × List UInt8), (v_49.fst ≤ (l.getD v_11.fst (dflt 10)).splits.length ∧ v_49.snd.snd.length = v_49.snd.fst ∧ v_49.snd.fst ≤ 1100 ∧ WJ l v_11.fst v_49.fst v_49.snd.snd) → ∀ (n51 : Int), (n51 = (↑(l.getD v_11.fst (dflt 10)).splits.length : Int)) → (inK .i64 n51) → br (decide ((↑v_49.fst : Int) < n51)) (((0 : Int) ≤ (↑v_49.fst : Int)) ∧ ((↑v_49.fst : Int) < (↑(l.getD v_11.fst (dflt 10)).splits.length : Int)) ∧ ∀ (n54 : Int), (n54 = (l.getD v_11.fst (dflt 10)).splits.getD (↑v_49.fst : Int).toNat (0 : Int)) → (inK .i64 n54) → ∀ (r_57 : Bool), (r_57 = true ↔ 0 ≤ n54 ∧ n54 ≤ 1048576) → br (!r_57) ((k (.tup [.nilsl, .int .i64 170]) [] [])) (((0 : Int) ≤ (↑v_49.fst : Int)) ∧ ((↑v_49.fst : Int) < (↑(l.getD v_11.fst (dflt 10)).splits.length : Int)) ∧ ∀ (n59 : Int), (n59 = (l.getD v_11.fst (dflt 10)).splits.getD (↑v_49.fst : Int).toNat (0 : Int)) → (inK .i64 n59) → ((List.take 1 (List.drop 0 [n59])).length ≤ 1000000) ∧ ∀ (ys_62 : List UInt8), ∀ (n_63 : Nat), (ys_62 = sms (List.take 1 (List.drop 0 [n59]))) → (ys_62.length = n_63) → ((v_49.snd.fst + n_63) * 1 ≤ 140737488355328) ∧ ∀ (z66 : List UInt8), (z66 = List.take v_49.snd.fst v_49.snd.snd ++ List.take n_63 (List.drop 0 ys_62)) → ∀ (n68 : Int), (n68 = IntKind.i64.wrap ((↑v_49.fst : Int) + (1 : Int))) → (inK .i64 n68) → ∃ (v' : Nat × Nat × List UInt8), (l = l) ∧ (0 = 0) ∧ (v_49.snd.fst + n_63 = v'.snd.fst) ∧ ((↑v_11.fst : Int) = (↑v_11.fst : Int)) ∧ (n68 = (↑v'.fst : Int)) ∧ (z66 = v'.snd.snd) ∧ ((l.getD v_11.fst (dflt 10)).cycle = (l.getD v_11.fst (dflt 10)).cycle) ∧ ((l.getD v_11.fst (dflt 10)).offset = (l.getD v_11.fst (dflt 10)).offset) ∧ ((l.getD v_11.fst (dflt 10)).splits = (l.getD v_11.fst (dflt 10)).splits) ∧ ((v'.fst ≤ (l.getD v_11.fst (dflt 10)).splits.length) ∧ (v'.snd.snd.length = v'.snd.fst) ∧ (v'.snd.fst ≤ 1100) ∧ (WJ l v_11.fst v'.fst v'.snd.snd)) ∧ ((l.getD v_11.fst (dflt 10)).splits.length - v'.fst < (l.getD v_11.fst (dflt 10)).splits.length - v_49.fst))) (∀ (n71 : Int), (n71 = IntKind.i64.wrap ((↑v_11.fst : Int) + (1 : Int))) → (inK .i64 n71) → ∃ (v' : Nat × Nat × List UInt8), (l = l) ∧ (0 = 0) ∧ (v_49.snd.fst = v'.snd.fst) ∧ (n71 = (↑v'.fst : Int)) ∧ (v_49.snd.snd = v'.snd.snd) ∧ ((v'.fst ≤ l.length) ∧ (l.length ≤ 8) ∧ (v'.snd.snd.length = v'.snd.fst) ∧ (v'.snd.fst ≤ 900) ∧ (WO l v'.fst v'.snd.snd)) ∧ (l.length - v'.fst < l.length - v_11.fst)))))) ((k (.tup [.row 0 0 0 v_11.snd.fst, .int .i64 0]) [] [.row 0 v_11.snd.snd]))) := by
 intro n1 q1 ⟨l1, u1⟩
 refine brd (fun c1 => ?_) (fun c1 => ?_)
 ·
  exact hk.1 4 (wholeE_4 (by omega)).symm (by decide) (.inl rfl)
 intro n4 q4 ⟨l4, u4⟩
 have h2 : (List.take (1 : Nat) (List.drop (0 : Nat) [n4])).length ≤ (1000000 : Nat) := by
  simp
 refine ⟨h2, ?_⟩
 intro ys_7 n_8 h3 h4
 refine ⟨?_, ?_⟩
 ·
  refine ⟨(Int.toNat (0 : Int), n_8, ys_7), rfl, rfl, rfl, by show (0 : Int) = (↑(Int.toNat (0 : Int)) : Int); omega, rfl, by show Int.toNat (0 : Int) ≤ l.length; omega, by show l.length ≤ (8 : Nat); omega, by show ys_7.length = n_8; assumption, ?_⟩
  have h5 : n_8 ≤ (900 : Nat) := by
   have w := wo_0 l (ys := ys_7) (by rw [h3, q4]; rfl)
   have := w.len (by omega) (by omega)
   omega
  refine ⟨h5, ?_⟩
  exact wo_0 l (by rw [h3, q4]; rfl)
 intro v_11 h6 n13 q13 ⟨l13, u13⟩
 refine brd (fun c7 => ?_) (fun c7 => ?_)
 ·
  refine ⟨by first | omega | (dsimp only; omega), by first | omega | (dsimp only; omega), ?_⟩
  intro n16 q16 ⟨l16, u16⟩ r_19 h8 n21 q21 n23 q23 n25 q25
  rw [IntKind.wrap_i64] at q25
  refine br_intro (fun c9 => ?_) (fun c9 => ?_)
  ·
   simp at c9
   refine ⟨by with_reducible rfl, ?_⟩
   intro n27 q27
   refine ⟨by with_reducible rfl, ?_⟩
   exact hk.1 170 (wholeE_170 (by omega) (i := v_11.fst) (by omega) fun p => by have := h8.2 (by rw [q16, Int.toNat_natCast]; exact p.a); rw [this] at c9; cases c9).symm (by decide) (.inr rfl)
  simp at c9
  intro r_28 h10 n30 q30
  refine br_intro (fun c11 => ?_) (fun c11 => ?_)
  ·
   simp at c11
   refine ⟨by with_reducible rfl, ?_⟩
   exact hk.1 170 (wholeE_170 (by omega) (i := v_11.fst) (by omega) fun p => by have pa := p.a; have pb := p.b; rw [Int.toNat_natCast] at q21 q23; rw [← q23] at pa pb; rw [← q21] at pb; have := h10.2 (by omega); rw [this] at c11; cases c11).symm (by decide) (.inr rfl)
  simp at c11
  intro r_32 h12
  refine br_intro (fun c13 => ?_) (fun c13 => ?_)
  ·
   simp at c13
   exact hk.1 170 (wholeE_170 (by omega) (i := v_11.fst) (by omega) fun p => by have pc := p.c; rw [Int.toNat_natCast] at q30; have := h12.2 (by omega); rw [this] at c13; cases c13).symm (by decide) (.inr rfl)
  simp at c13
  intro n34 q34 ⟨l34, u34⟩ n37 q37 ⟨l37, u37⟩ n40 q40 ⟨l40, u40⟩
  have h14 : (List.take (3 : Nat) (List.drop (0 : Nat) [n34, n37, n40])).length ≤ (1000000 : Nat) := by
   simp
  refine ⟨h14, ?_⟩
  intro ys_43 n_44 h15 h16
  have h17 : (v_11.snd.fst + n_44) * (1 : Nat) ≤ (140737488355328 : Nat) := by
   have sl := sms_len [n34, n37, n40]
   have se : ys_43 = sms [n34, n37, n40] := h15
   rw [← se] at sl
   simp at sl
   omega
  refine ⟨h17, ?_⟩
  intro z47 qz47
  refine ⟨?_, ?_⟩
  ·
   refine ⟨(Int.toNat (0 : Int), v_11.snd.fst + n_44, z47), rfl, rfl, rfl, rfl, by show (0 : Int) = (↑(Int.toNat (0 : Int)) : Int); omega, rfl, by rfl, by rfl, by rfl, by show Int.toNat (0 : Int) ≤ (l.getD v_11.fst (dflt (10 : Nat))).splits.length; omega, ?_⟩
   have h18 : z47.length = v_11.snd.fst + n_44 := by
    rw [qz47]; simp; omega
   refine ⟨h18, ?_⟩
   have h19 : v_11.snd.fst + n_44 ≤ (1100 : Nat) := by
    rw [Int.toNat_natCast] at q16 q21 q23 q30 q34 q37 q40
    have e1 : n16 = n34 := q16.trans q34.symm
    have e2 : n21 = n37 := q21.trans q37.symm
    have e3 : n23 = n34 := q23.trans q34.symm
    have e4 : n30 = n40 := q30.trans q40.symm
    have a := h8.1 c9
    have b := h10.1 c11
    have c := h12.1 c13
    have w : WJ l v_11.fst 0 z47 := wj_0 h6.2.2.2.2 q34 q37 rfl (by omega) (by omega) (by omega) (by rw [qz47, List.take_of_length_le (by omega), List.drop_zero, List.take_of_length_le (by omega), h15, q40]; rfl)
    have zl : z47.length = v_11.snd.fst + n_44 := by rw [qz47]; simp; omega
    have := w.len (by omega) (by omega)
    omega
   refine ⟨h19, ?_⟩
   rw [Int.toNat_natCast] at q16 q21 q23 q30 q34 q37 q40
   have e1 : n16 = n34 := q16.trans q34.symm
   have e2 : n21 = n37 := q21.trans q37.symm
   have e3 : n23 = n34 := q23.trans q34.symm
   have e4 : n30 = n40 := q30.trans q40.symm
   have a := h8.1 c9
   have b := h10.1 c11
   have c := h12.1 c13
   have w : WJ l v_11.fst 0 z47 := wj_0 h6.2.2.2.2 q34 q37 rfl (by omega) (by omega) (by omega) (by rw [qz47, List.take_of_length_le (by omega), List.drop_zero, List.take_of_length_le (by omega), h15, q40]; rfl)
   exact w
  intro v_49 h20 n51 q51 ⟨l51, u51⟩
  refine brd (fun c21 => ?_) (fun c21 => ?_)
  ·
   refine ⟨by first | omega | (dsimp only; omega), by first | omega | (dsimp only; omega), ?_⟩
   intro n54 q54 ⟨l54, u54⟩ r_57 h22
   refine br_intro (fun c23 => ?_) (fun c23 => ?_)
   ·
    simp at c23
    exact hk.1 170 (wj_bad h20.2.2.2 (by omega) (by omega) (j := v_49.fst) (x := n54) (by omega) (by rw [q54, Int.toNat_natCast]) (fun c => by rw [h22.2 c] at c23; cases c23)).symm (by decide) (.inr rfl)
   simp at c23
   refine ⟨by first | omega | (dsimp only; omega), by first | omega | (dsimp only; omega), ?_⟩
   intro n59 q59 ⟨l59, u59⟩
   refine ⟨by assumption, ?_⟩
   intro ys_62 n_63 h24 h25
   have h26 : (v_49.snd.fst + n_63) * (1 : Nat) ≤ (140737488355328 : Nat) := by
    have sl := sms_len [n59]
    have se : ys_62 = sms [n59] := h24
    rw [← se] at sl
    simp at sl
    omega
   refine ⟨h26, ?_⟩
   intro z66 qz66 n68 q68
   rw [IntKind.wrap_i64] at q68
   intro ⟨l68, u68⟩
   refine ⟨(n68.toNat, v_49.snd.fst + n_63, z66), rfl, rfl, rfl, rfl, by show n68 = (↑n68.toNat : Int); omega, rfl, rfl, rfl, rfl, ?_⟩
   refine ⟨?_, ?_⟩
   ·
    refine ⟨by show n68.toNat ≤ (l.getD v_11.fst (dflt (10 : Nat))).splits.length; omega, ?_⟩
    have h27 : z66.length = v_49.snd.fst + n_63 := by
     rw [qz66]; simp; omega
    refine ⟨h27, ?_⟩
    have h28 : v_49.snd.fst + n_63 ≤ (1100 : Nat) := by
     have hc := h20.2.2.2.c.2
     have ee : n54 = n59 := q54.trans q59.symm
     have w := wj_step h20.2.2.2 (x := n59) (by omega) (by rw [q59, Int.toNat_natCast]) (by have := h22.1 c23; omega) (zs := z66) (by rw [qz66, List.take_of_length_le (by omega), List.drop_zero, List.take_of_length_le (by omega), h24]; rfl)
     have zl : z66.length = v_49.snd.fst + n_63 := by rw [qz66]; simp; omega
     have := w.len (by omega) (by omega)
     omega
    refine ⟨h28, ?_⟩
    have hc := h20.2.2.2.c.2
    have ee : n54 = n59 := q54.trans q59.symm
    have w := wj_step h20.2.2.2 (x := n59) (by omega) (by rw [q59, Int.toNat_natCast]) (by have := h22.1 c23; omega) (zs := z66) (by rw [qz66, List.take_of_length_le (by omega), List.drop_zero, List.take_of_length_le (by omega), h24]; rfl)
    have zl : z66.length = v_49.snd.fst + n_63 := by rw [qz66]; simp; omega
    rw [show n68.toNat = v_49.fst + 1 by omega]; exact w
   exact by show (l.getD v_11.fst (dflt (10 : Nat))).splits.length - n68.toNat < (l.getD v_11.fst (dflt (10 : Nat))).splits.length - v_49.fst; omega
  intro n71 q71
  rw [IntKind.wrap_i64] at q71
  intro ⟨l71, u71⟩
  refine ⟨(n71.toNat, v_49.snd.fst, v_49.snd.snd), rfl, rfl, rfl, by show n71 = (↑n71.toNat : Int); omega, rfl, ?_⟩
  refine ⟨?_, ?_⟩
  ·
   refine ⟨by show n71.toNat ≤ l.length; omega, by show l.length ≤ (8 : Nat); omega, by show v_49.snd.snd.length = v_49.snd.fst; omega, ?_⟩
   have h29 : v_49.snd.fst ≤ (900 : Nat) := by
    have w := wj_end h20.2.2.2 (by omega) (by omega)
    have := w.len (by omega) (by omega)
    omega
   refine ⟨h29, ?_⟩
   have w := wj_end h20.2.2.2 (by omega) (by omega)
   rw [show n71.toNat = v_11.fst + 1 by omega]; exact w
  exact by show l.length - n71.toNat < l.length - v_11.fst; omega
 obtain ⟨e1, e2⟩ := wo_end h6.2.2.2.2 (by omega) (by omega)
 exact hk.2 e1 _ _ e2 h6.2.2.1
theorem rwhole_ok : Holds Try.prog 39 wholeS := by
  refine fn_sound (env := mkEnv F1r) (tab_ok F1r_ok) Try.func39 Try.call39 fun args k h => ?_
  match args, h with
  | [.sl 10 l], h => exact ⟨by kernel_rfl, rwholeLoops l, fun _ _ => none, .cast (by kernel_rfl) (rwhole_vc l k h)⟩
theorem rwholeU_ok : Holds Try.prog 39 wholeD := whole_up rwhole_ok
end Go.Proofs.Ytcdflgfhkohldaa
