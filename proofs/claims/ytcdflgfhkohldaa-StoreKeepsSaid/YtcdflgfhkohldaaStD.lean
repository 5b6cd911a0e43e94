import Derived.Test.YtcdflgfhkohldaaStC
namespace Go.Proofs.Ytcdflgfhkohldaa
open Go Go.Eng Go.Rw Go.Lk Go.Proofs
open Go.Bk hiding take_step drop_step set_mid
set_option linter.unusedVariables false
set_option maxHeartbeats 2000000 in
theorem sputn_vc (l : List Int) (hl : l.length ≤ 1000000) (k : AV → List (Option Blk) → List Blk → Prop) (hk : ∀ (ys : List UInt8) (n : Nat), ys = sms l → ys.length = n → k (.row 0 0 0 n) [] [.row 0 ys]) : ∀ (n1 : Int), (n1 = (↑l.length : Int)) → (inK .i64 n1) → (∃ (v : Nat × Nat × List UInt8), (0 = 0) ∧ (0 = v.snd.fst) ∧ (l = l) ∧ (n1 = (↑l.length : Int)) ∧ ((0 : Int) = (↑v.fst : Int)) ∧ ([] = v.snd.snd) ∧ (v.fst ≤ l.length) ∧ (l.length ≤ 1000000) ∧ (v.snd.snd.length = v.snd.fst) ∧ (v.snd.fst ≤ 10 * v.fst) ∧ (v.snd.snd = sms (List.take v.fst l))) ∧ ∀ (v_4 : Nat × Nat × List UInt8), (v_4.fst ≤ l.length ∧ l.length ≤ 1000000 ∧ v_4.snd.snd.length = v_4.snd.fst ∧ v_4.snd.fst ≤ 10 * v_4.fst ∧ v_4.snd.snd = sms (List.take v_4.fst l)) → br (decide ((↑v_4.fst : Int) < (↑l.length : Int))) (((0 : Int) ≤ (↑v_4.fst : Int)) ∧ ((↑v_4.fst : Int) < (↑l.length : Int)) ∧ ∀ (n6 : Int), (n6 = l.getD (↑v_4.fst : Int).toNat (0 : Int)) → (inK .i64 n6) → ∀ (n9 : Int), (n9 = IntKind.u64.wrap n6) → (inK .u64 n9) → ((0 ≤ n9) ∧ (n9 ≤ 18446744073709551615)) ∧ ∀ (ys_12 : List UInt8), ∀ (q_13 : Nat), (ys_12 = smallL n9.toNat) → (ys_12.length = q_13) → (q_13 ≤ 10) → ((v_4.snd.fst + q_13) * 1 ≤ 140737488355328) ∧ ∀ (z17 : List UInt8), (z17 = List.take v_4.snd.fst v_4.snd.snd ++ List.take q_13 (List.drop 0 ys_12)) → ∀ (n19 : Int), (n19 = IntKind.i64.wrap ((↑v_4.fst : Int) + (1 : Int))) → (inK .i64 n19) → ∃ (v' : Nat × Nat × List UInt8), (0 = 0) ∧ (v_4.snd.fst + q_13 = v'.snd.fst) ∧ (l = l) ∧ ((↑l.length : Int) = (↑l.length : Int)) ∧ (n19 = (↑v'.fst : Int)) ∧ (z17 = v'.snd.snd) ∧ ((v'.fst ≤ l.length) ∧ (l.length ≤ 1000000) ∧ (v'.snd.snd.length = v'.snd.fst) ∧ (v'.snd.fst ≤ 10 * v'.fst) ∧ (v'.snd.snd = sms (List.take v'.fst l))) ∧ (l.length - v'.fst < l.length - v_4.fst)) ((k (.row 0 0 0 v_4.snd.fst) [] [.row 0 v_4.snd.snd])) := by
 intro n1 q1 ⟨l1, u1⟩
 refine ⟨?_, ?_⟩
 ·
  refine ⟨(Int.toNat (0 : Int), (0 : Nat), []), rfl, rfl, rfl, by show n1 = (↑l.length : Int); assumption, by show (0 : Int) = (↑(Int.toNat (0 : Int)) : Int); omega, rfl, by show Int.toNat (0 : Int) ≤ l.length; omega, by show l.length ≤ (1000000 : Nat); assumption, rfl, by show (0 : Nat) ≤ (10 : Nat) * Int.toNat (0 : Int); omega, ?_⟩
  exact by rfl
 intro v_4 h1
 refine brd (fun c2 => ?_) (fun c2 => ?_)
 ·
  refine ⟨by first | omega | (dsimp only; omega), by assumption, ?_⟩
  intro n6 q6 ⟨l6, u6⟩ n9 q9
  rw [IntKind.wrap_u64] at q9
  intro ⟨l9, u9⟩
  refine ⟨by exact ⟨by assumption, by assumption⟩, ?_⟩
  intro ys_12 q_13 h3 h4 h5
  refine ⟨by first | omega | (dsimp only; omega), ?_⟩
  intro z17 qz17 n19 q19
  rw [IntKind.wrap_i64] at q19
  intro ⟨l19, u19⟩
  refine ⟨(n19.toNat, v_4.snd.fst + q_13, z17), rfl, rfl, rfl, rfl, by show n19 = (↑n19.toNat : Int); omega, rfl, ?_⟩
  refine ⟨?_, ?_⟩
  ·
   refine ⟨by show n19.toNat ≤ l.length; omega, by show l.length ≤ (1000000 : Nat); assumption, ?_⟩
   have h6 : z17.length = v_4.snd.fst + q_13 := by
    rw [qz17, List.length_append, List.length_take, List.length_take, List.length_drop]; omega
   refine ⟨h6, by show v_4.snd.fst + q_13 ≤ (10 : Nat) * n19.toNat; omega, ?_⟩
   have se : ys_12 = smI (l.getD v_4.fst 0) := by unfold smI; rw [h3, q9, q6, Int.toNat_natCast]
   rw [show n19.toNat = v_4.fst + 1 by omega, sms_step (by omega), ← h1.2.2.2.2, qz17, ← h4, List.drop_zero, List.take_length, List.take_of_length_le (by omega), se]
  exact by show l.length - n19.toNat < l.length - v_4.fst; omega
 exact hk _ _ (by rw [h1.2.2.2.2, List.take_of_length_le (by omega)]) h1.2.2.1
theorem sputn_ok : Holds Try.prog 58 putN := by
  refine fn_soundB (env := mkEnv M1) (tab_ok M1_ok) Try.func58 Try.call58 (fun args B k h => ?_) (by decide)
  unfold putN at h
  dsimp only at h
  split at h
  · rename_i l
    exact ⟨by kernel_rfl, putNLoops l, fun _ _ => none, .cast (by kernel_rfl) (sputn_vc l h.1 k h.2)⟩
  · exact h.elim
set_option maxHeartbeats 2000000 in
theorem sputb_vc (q : Nat) (l : List Int) (xs : List UInt8) (hl : q = xs.length ∧ q ≤ 1000000 ∧ l.length ≤ 1000000) (k : AV → List (Option Blk) → List Blk → Prop) (hk : ∀ (ys : List UInt8) (n : Nat), ys = xs ++ sms l → ys.length = n → k (.row 0 1 0 n) [none] [.row 0 ys]) : ∀ (n1 : Int), (n1 = (↑l.length : Int)) → (inK .i64 n1) → (∃ (v : Nat × Nat × List UInt8), (0 = 0) ∧ (q = v.snd.fst) ∧ (l = l) ∧ (n1 = (↑l.length : Int)) ∧ ((0 : Int) = (↑v.fst : Int)) ∧ (xs = v.snd.snd) ∧ (v.fst ≤ l.length) ∧ ((q = xs.length) ∧ (q ≤ 1000000) ∧ (l.length ≤ 1000000)) ∧ (v.snd.snd.length = v.snd.fst) ∧ (v.snd.fst ≤ 1000000 + 10 * v.fst) ∧ (v.snd.snd = xs ++ sms (List.take v.fst l))) ∧ ∀ (v_4 : Nat × Nat × List UInt8), (v_4.fst ≤ l.length ∧ (q = xs.length ∧ q ≤ 1000000 ∧ l.length ≤ 1000000) ∧ v_4.snd.snd.length = v_4.snd.fst ∧ v_4.snd.fst ≤ 1000000 + 10 * v_4.fst ∧ v_4.snd.snd = xs ++ sms (List.take v_4.fst l)) → br (decide ((↑v_4.fst : Int) < (↑l.length : Int))) (((0 : Int) ≤ (↑v_4.fst : Int)) ∧ ((↑v_4.fst : Int) < (↑l.length : Int)) ∧ ∀ (n6 : Int), (n6 = l.getD (↑v_4.fst : Int).toNat (0 : Int)) → (inK .i64 n6) → ∀ (n9 : Int), (n9 = IntKind.u64.wrap n6) → (inK .u64 n9) → ((0 ≤ n9) ∧ (n9 ≤ 18446744073709551615)) ∧ ∀ (ys_12 : List UInt8), ∀ (q_13 : Nat), (ys_12 = smallL n9.toNat) → (ys_12.length = q_13) → (q_13 ≤ 10) → ((v_4.snd.fst + q_13) * 1 ≤ 140737488355328) ∧ ∀ (z17 : List UInt8), (z17 = List.take v_4.snd.fst v_4.snd.snd ++ List.take q_13 (List.drop 0 ys_12)) → ∀ (n19 : Int), (n19 = IntKind.i64.wrap ((↑v_4.fst : Int) + (1 : Int))) → (inK .i64 n19) → ∃ (v' : Nat × Nat × List UInt8), (0 = 0) ∧ (v_4.snd.fst + q_13 = v'.snd.fst) ∧ (l = l) ∧ ((↑l.length : Int) = (↑l.length : Int)) ∧ (n19 = (↑v'.fst : Int)) ∧ (z17 = v'.snd.snd) ∧ ((v'.fst ≤ l.length) ∧ ((q = xs.length) ∧ (q ≤ 1000000) ∧ (l.length ≤ 1000000)) ∧ (v'.snd.snd.length = v'.snd.fst) ∧ (v'.snd.fst ≤ 1000000 + 10 * v'.fst) ∧ (v'.snd.snd = xs ++ sms (List.take v'.fst l))) ∧ (l.length - v'.fst < l.length - v_4.fst)) ((k (.row 0 1 0 v_4.snd.fst) [none] [.row 0 v_4.snd.snd])) := by
 intro n1 q1 ⟨l1, u1⟩
 refine ⟨?_, ?_⟩
 ·
  refine ⟨(Int.toNat (0 : Int), q, xs), rfl, rfl, rfl, by show n1 = (↑l.length : Int); assumption, by show (0 : Int) = (↑(Int.toNat (0 : Int)) : Int); omega, rfl, by show Int.toNat (0 : Int) ≤ l.length; omega, ?_⟩
  refine ⟨?_, ?_⟩
  ·
   refine ⟨by show q = xs.length; omega, by show q ≤ (1000000 : Nat); omega, ?_⟩
   exact by show l.length ≤ (1000000 : Nat); omega
  refine ⟨by show xs.length = q; omega, by show q ≤ (1000000 : Nat) + (10 : Nat) * Int.toNat (0 : Int); omega, ?_⟩
  simp [sms]
 intro v_4 h1
 refine brd (fun c2 => ?_) (fun c2 => ?_)
 ·
  refine ⟨by first | omega | (dsimp only; omega), by assumption, ?_⟩
  intro n6 q6 ⟨l6, u6⟩ n9 q9
  rw [IntKind.wrap_u64] at q9
  intro ⟨l9, u9⟩
  refine ⟨by exact ⟨by assumption, by assumption⟩, ?_⟩
  intro ys_12 q_13 h3 h4 h5
  refine ⟨by first | omega | (dsimp only; omega), ?_⟩
  intro z17 qz17 n19 q19
  rw [IntKind.wrap_i64] at q19
  intro ⟨l19, u19⟩
  refine ⟨(n19.toNat, v_4.snd.fst + q_13, z17), rfl, rfl, rfl, rfl, by show n19 = (↑n19.toNat : Int); omega, rfl, ?_⟩
  refine ⟨?_, ?_⟩
  ·
   refine ⟨by show n19.toNat ≤ l.length; omega, ?_⟩
   refine ⟨?_, ?_⟩
   ·
    refine ⟨by show q = xs.length; omega, by show q ≤ (1000000 : Nat); omega, ?_⟩
    exact by show l.length ≤ (1000000 : Nat); omega
   have h6 : z17.length = v_4.snd.fst + q_13 := by
    rw [qz17, List.length_append, List.length_take, List.length_take, List.length_drop]; omega
   refine ⟨h6, by show v_4.snd.fst + q_13 ≤ (1000000 : Nat) + (10 : Nat) * n19.toNat; omega, ?_⟩
   have se : ys_12 = smI (l.getD v_4.fst 0) := by unfold smI; rw [h3, q9, q6, Int.toNat_natCast]
   rw [show n19.toNat = v_4.fst + 1 by omega, sms_step (by omega), ← List.append_assoc, ← h1.2.2.2.2, qz17, ← h4, List.drop_zero, List.take_length, List.take_of_length_le (by omega), se]
  exact by show l.length - n19.toNat < l.length - v_4.fst; omega
 exact hk _ _ (by rw [h1.2.2.2.2, List.take_of_length_le (by omega)]) h1.2.2.1
theorem sputb_ok : Holds Try.prog 58 putB := by
  refine fn_soundB (env := mkEnv M1) (tab_ok M1_ok) Try.func58 Try.call58 (fun args B k h => ?_) (by decide)
  unfold putB at h
  dsimp only at h
  split at h
  · rename_i q l xs
    exact ⟨by kernel_rfl, putBLoops q l xs, fun _ _ => none, .cast (by kernel_rfl) (sputb_vc q l xs h.1 k h.2)⟩
  · exact h.elim
theorem sput_ok : Holds Try.prog 58 putX := put_up sputn_ok sputb_ok
set_option maxHeartbeats 2000000 in
theorem clone_vc (xs : List UInt8) (hx : xs.length ≤ 1000000) (k : AV → List (Option Blk) → List Blk → Prop) (hk : (xs = [] → k .nilsl [] []) ∧ k (.row 0 0 0 xs.length) [] [.row 0 xs]) : ∀ (b_1 : Bool), ((b_1 = true) → (xs = [])) → br (b_1) ((k .nilsl [] [])) (((0 + xs.length) * 1 ≤ 140737488355328) ∧ ∀ (z3 : List UInt8), (z3 = List.take 0 [] ++ xs) → (k (.row 0 0 0 (0 + xs.length)) [] [.row 0 z3])) := by
 intro b_1 h1
 refine br_intro (fun c2 => ?_) (fun c2 => ?_)
 ·
  exact hk.1 (h1 c2)
 refine ⟨by first | omega | (dsimp only; omega), ?_⟩
 intro z3 qz3
 rw [qz3, Nat.zero_add]; exact hk.2
theorem clone_ok : Holds Try.prog 56 clone0S := by
  refine fn_sound (env := mkEnv T0) (tab_ok T0_ok) Try.func56 Try.call56 fun args k h => ?_
  match args, h with
  | [.sl 0 xs], h => exact ⟨by kernel_rfl, fun _ _ => none, fun _ _ => none, .cast (by kernel_rfl) (clone_vc xs h.1 k h.2)⟩
theorem cloneR_ok : Holds Try.prog 56 cloneS := clone_ok.nl 0 rfl rfl rfl fun args k h => by
  unfold cloneS at h
  dsimp only at h
  split at h
  · exact ⟨h.1, fun e => by subst e; exact h.2, h.2⟩
  · exact h.elim
set_option maxHeartbeats 2000000 in
theorem check_vc (d : List UInt8) (k : AV → List (Option Blk) → List Blk → Prop) (hk : ∀ (e : Int), e = chkE d → k (.int .i64 e) [] []) : ∀ (n1 : Int), (n1 = (↑d.length : Int)) → (inK .i64 n1) → (((bif decide (n1 < 64) then true else decide (n1 > 4096)) = false) → ((64 : Int) ≠ (0 : Int))) ∧ ∀ (n4 : Int), (n4 = n1.tmod (64 : Int)) → br (bif bif decide (n1 < 64) then true else decide (n1 > 4096) then true else n4 != 0) ((k (.int .i64 180) [] [])) ((k (.int .i64 0) [] [])) := by
 intro n1 q1 ⟨l1, u1⟩
 refine ⟨?_, ?_⟩
 ·
  intro h1
  simp at h1
  exact by omega
 intro n4 q4
 rw [Int.tmod_eq_emod_of_nonneg (by omega)] at q4
 refine br_intro (fun c2 => ?_) (fun c2 => ?_)
 ·
  simp at c2
  refine hk 180 ?_
  unfold chkE
  rw [if_neg]
  unfold dOk
  omega
 simp at c2
 refine hk 0 ?_
 unfold chkE
 rw [if_pos]
 exact ⟨by omega, by omega, by omega⟩
theorem check_ok : Holds Try.prog 54 checkS := by
  refine fn_sound (env := mkEnv T0) (tab_ok T0_ok) Try.func54 Try.call54 fun args k h => ?_
  match args, h with
  | [.agg [.sl 0 d]], h => exact ⟨by kernel_rfl, fun _ _ => none, fun _ _ => none, .cast (by kernel_rfl) (check_vc d k h)⟩
set_option maxHeartbeats 2000000 in
theorem rcheck_vc (d : List UInt8) (k : AV → List (Option Blk) → List Blk → Prop) (hk : ∀ (e : Int), e = chkE d → k (.int .i64 e) [] []) : ∀ (n1 : Int), (n1 = (↑d.length : Int)) → (inK .i64 n1) → ∀ (n4 : Int), (n4 = (↑d.length : Int)) → ∀ (n6 : Int), (n6 = (↑d.length : Int)) → (((bif decide (n1 < 64) then true else decide (n4 > 4096)) = false) → ((64 : Int) ≠ (0 : Int))) ∧ ∀ (n8 : Int), (n8 = n6.tmod (64 : Int)) → br (bif bif decide (n1 < 64) then true else decide (n4 > 4096) then true else n8 != 0) ((k (.int .i64 180) [] [])) ((k (.int .i64 0) [] [])) := by
 intro n1 q1 ⟨l1, u1⟩ n4 q4 n6 q6
 refine ⟨?_, ?_⟩
 ·
  intro q6
  simp at q6
  exact by omega
 intro n8 q8
 rw [Int.tmod_eq_emod_of_nonneg (by omega)] at q8
 refine br_intro (fun c1 => ?_) (fun c1 => ?_)
 ·
  simp at c1
  refine hk 180 ?_
  unfold chkE
  rw [if_neg]
  unfold dOk
  omega
 simp at c1
 refine hk 0 ?_
 unfold chkE
 rw [if_pos]
 exact ⟨by omega, by omega, by omega⟩
theorem rcheck_ok : Holds Try.prog 68 checkS := by
  refine fn_sound (env := mkEnv T0) (tab_ok T0_ok) Try.func68 Try.call68 fun args k h => ?_
  match args, h with
  | [.agg [.sl 0 d]], h => exact ⟨by kernel_rfl, fun _ _ => none, fun _ _ => none, .cast (by kernel_rfl) (rcheck_vc d k h)⟩
set_option maxHeartbeats 2000000 in
theorem rmany_vc (d : List UInt8) (k : AV → List (Option Blk) → List Blk → Prop) (hk : ∀ (m : Int), m = (↑(d.length / 64) : Int) → k (.int .i64 m) [] []) : ∀ (n1 : Int), (n1 = (↑d.length : Int)) → (inK .i64 n1) → ((64 : Int) ≠ (0 : Int)) ∧ ∀ (n4 : Int), (n4 = IntKind.i64.wrap (n1.tdiv (64 : Int))) → (inK .i64 n4) → (k (.int .i64 n4) [] []) := by
 intro n1 q1 ⟨l1, u1⟩
 refine ⟨by first | omega | (dsimp only; omega), ?_⟩
 intro n4 q4
 rw [Int.tdiv_eq_ediv_of_nonneg (by omega)] at q4
 rw [IntKind.wrap_i64] at q4
 intro ⟨l4, u4⟩
 exact hk _ (by omega)
theorem rmany_ok : Holds Try.prog 48 rmanyS := by
  refine fn_sound (env := mkEnv T0) (tab_ok T0_ok) Try.func48 Try.call48 fun args k h => ?_
  match args, h with
  | [.agg [.sl 0 d]], h => exact ⟨by kernel_rfl, fun _ _ => none, fun _ _ => none, .cast (by kernel_rfl) (rmany_vc d k h)⟩
set_option maxHeartbeats 2000000 in
theorem atA_vc (d : List UInt8) (n : Int) (hn : 0 ≤ n ∧ (64 : Int) * n + 64 ≤ (↑d.length : Int) ∧ d.length ≤ 1000000) (k : AV → List (Option Blk) → List Blk → Prop) (hk : k (.sl 0 (blk d n)) [] []) : ∀ (n1 : Int), (n1 = IntKind.i64.wrap (n * (64 : Int))) → (inK .i64 n1) → (0 ≤ n1) ∧ (n1 ≤ (↑d.length : Int)) ∧ ((0 : Int) ≤ (64 : Int)) ∧ ((64 : Int) ≤ (↑(List.drop n1.toNat d).length : Int)) ∧ (k (.sl 0 (List.take (Int.toNat (64 : Int)) (List.drop n1.toNat d))) [] []) := by
 intro n1 q1
 rw [IntKind.wrap_i64] at q1
 intro ⟨l1, u1⟩
 refine ⟨by first | omega | (dsimp only; omega), by first | omega | (dsimp only; omega), by first | omega | (dsimp only; omega), ?_⟩
 have h1 : (64 : Int) ≤ (↑(List.drop n1.toNat d).length : Int) := by
  rw [List.length_drop]; omega
 refine ⟨h1, ?_⟩
 have e : List.take (Int.toNat 64) (List.drop n1.toNat d) = blk d n := by unfold blk; rw [show n1.toNat = 64 * n.toNat by omega]; rfl
 have := hk
 rw [← e] at this
 exact this
theorem atA_ok : Holds Try.prog 57 atS := by
  refine fn_sound (env := mkEnv T0) (tab_ok T0_ok) Try.func57 Try.call57 fun args k h => ?_
  match args, h with
  | [.agg [.sl 0 d], .int .i64 n], h => exact ⟨by kernel_rfl, fun _ _ => none, fun _ _ => none, .cast (by kernel_rfl) (atA_vc d n h.1 k h.2)⟩
set_option maxHeartbeats 2000000 in
theorem atb_vc (q : Nat) (n : Int) (xs : List UInt8) (hn : q = xs.length ∧ 0 ≤ n ∧ (64 : Int) * n + 64 ≤ (↑xs.length : Int) ∧ xs.length ≤ 1000000) (k : AV → List (Option Blk) → List Blk → Prop) (hk : ∀ (o : Nat), o = 64 * n.toNat → k (.row 0 0 o 64) [some (.row 0 xs)] []) : ∀ (n1 : Int), (n1 = IntKind.i64.wrap (n * (64 : Int))) → (inK .i64 n1) → (0 ≤ n1) ∧ (n1 ≤ (↑q : Int)) ∧ ((0 : Int) ≤ (64 : Int)) ∧ ((64 : Int) ≤ (↑(q - n1.toNat) : Int)) ∧ (k (.row 0 0 (0 + n1.toNat) 64) [some (.row 0 xs)] []) := by
 intro n1 q1
 rw [IntKind.wrap_i64] at q1
 intro ⟨l1, u1⟩
 refine ⟨by first | omega | (dsimp only; omega), by first | omega | (dsimp only; omega), by first | omega | (dsimp only; omega), by first | omega | (dsimp only; omega), ?_⟩
 exact hk _ (by omega)
theorem atb_ok : Holds Try.prog 57 atB := by
  refine fn_soundB (env := mkEnv T0) (tab_ok T0_ok) Try.func57 Try.call57 (fun args B k h => ?_) (by decide)
  unfold atB at h
  dsimp only at h
  split at h
  · rename_i q n xs
    exact ⟨by kernel_rfl, fun _ _ => none, fun _ _ => none, .cast (by kernel_rfl) (atb_vc q n xs h.1 k h.2)⟩
  · exact h.elim
set_option maxHeartbeats 2000000 in
theorem twin_vc (d : List UInt8) (hd : d.length ≤ 1000000) (k : AV → List (Option Blk) → List Blk → Prop) (hk : ∀ (ys : List UInt8) (n : Nat), ys = d → ys.length = n → k (.agg [.row 0 0 0 n]) [] [.row 0 ys]) : (d.length * 1 ≤ 140737488355328) ∧ ∀ (z1 : List UInt8), (z1 = d) → (k (.agg [.row 0 0 0 d.length]) [] [.row 0 z1]) := by
 refine ⟨by first | omega | (dsimp only; omega), ?_⟩
 intro z1 qz1
 exact hk z1 _ qz1 (by rw [qz1])
theorem twin_ok : Holds Try.prog 13 twinS := by
  refine fn_sound (env := mkEnv T0) (tab_ok T0_ok) Try.func13 Try.call13 fun args k h => ?_
  match args, h with
  | [.agg [.sl 0 d]], h => exact ⟨by kernel_rfl, fun _ _ => none, fun _ _ => none, .cast (by kernel_rfl) (twin_vc d h.1 k h.2)⟩
set_option maxHeartbeats 2000000 in
theorem rblock_vc (d : List UInt8) (n : Int) (hn : 0 ≤ n ∧ (64 : Int) * n + 64 ≤ (↑d.length : Int) ∧ d.length ≤ 1000000) (k : AV → List (Option Blk) → List Blk → Prop) (hk : ∀ (ys : List UInt8) (q : Nat), ys = blk d n → ys.length = q → k (.row 0 0 0 q) [] [.row 0 ys]) : ∀ (n1 : Int), (n1 = IntKind.i64.wrap (n * (64 : Int))) → (inK .i64 n1) → ∀ (n4 : Int), (n4 = IntKind.i64.wrap (n * (64 : Int))) → (inK .i64 n4) → ∀ (n7 : Int), (n7 = IntKind.i64.wrap (n4 + 64)) → (inK .i64 n7) → (0 ≤ n1) ∧ (n1 ≤ n7) ∧ (n7 ≤ (↑d.length : Int)) ∧ ((List.drop n1.toNat (List.take n7.toNat d)).length * 1 ≤ 140737488355328) ∧ ∀ (z10 : List UInt8), (z10 = List.drop n1.toNat (List.take n7.toNat d)) → (k (.row 0 0 0 (List.drop n1.toNat (List.take n7.toNat d)).length) [] [.row 0 z10]) := by
 intro n1 q1
 rw [IntKind.wrap_i64] at q1
 intro ⟨l1, u1⟩ n4 q4
 rw [IntKind.wrap_i64] at q4
 intro ⟨l4, u4⟩ n7 q7
 rw [IntKind.wrap_i64] at q7
 intro ⟨l7, u7⟩
 refine ⟨by first | omega | (dsimp only; omega), by first | omega | (dsimp only; omega), by first | omega | (dsimp only; omega), ?_⟩
 have h1 : (List.drop n1.toNat (List.take n7.toNat d)).length * (1 : Nat) ≤ (140737488355328 : Nat) := by
  rw [List.length_drop, List.length_take]; omega
 refine ⟨h1, ?_⟩
 intro z10 qz10
 exact hk _ _ (by rw [qz10, List.drop_take, show n7.toNat - n1.toNat = 64 by omega, show n1.toNat = 64 * n.toNat by omega]; rfl) (by rw [qz10])
theorem rblock_ok : Holds Try.prog 71 blockS := by
  refine fn_sound (env := mkEnv T0) (tab_ok T0_ok) Try.func71 Try.call71 fun args k h => ?_
  match args, h with
  | [.agg [.sl 0 d], .int .i64 n], h => exact ⟨by kernel_rfl, fun _ _ => none, fun _ _ => none, .cast (by kernel_rfl) (rblock_vc d n h.1 k h.2)⟩
set_option maxHeartbeats 2000000 in
theorem new_vc (n : Int) (k : AV → List (Option Blk) → List Blk → Prop) (hk : (newE n ≠ (0 : Int) → k (.tup [.agg [.nilsl], .int .i64 180]) [] []) ∧ (newE n = 0 → ∀ (ys : List UInt8) (q : Nat), ys = newO n → ys.length = q → k (.tup [.agg [.row 0 0 0 q], .int .i64 0]) [] [.row 0 ys])) : br (bif decide (n < 1) then true else decide (n > 64)) ((k (.tup [.agg [.nilsl], .int .i64 180]) [] [])) (∀ (n1 : Int), (n1 = IntKind.i64.wrap (n * (64 : Int))) → (inK .i64 n1) → ((0 ≤ n1) ∧ (n1 ≤ n1) ∧ (n1 * (↑(1 : Nat) : Int) ≤ (140737488355328 : Int))) ∧ (k (.tup [.agg [.row 0 0 0 n1.toNat], .int .i64 0]) [] [.row 0 (List.replicate n1.toNat (UInt8.ofNat (Int.toNat (0 : Int))))])) := by
 refine br_intro (fun c1 => ?_) (fun c1 => ?_)
 ·
  simp at c1
  exact hk.1 (by unfold newE; rw [if_neg (by omega)]; decide)
 simp at c1
 intro n1 q1
 rw [IntKind.wrap_i64] at q1
 intro ⟨l1, u1⟩
 refine ⟨?_, ?_⟩
 ·
  refine ⟨by first | omega | (dsimp only; omega), by first | omega | (dsimp only; omega), ?_⟩
  exact by omega
 exact hk.2 (by unfold newE; rw [if_pos (by omega)]) _ _ (by unfold newO; rw [if_pos (by omega), show n1.toNat = 64 * n.toNat by omega]; rfl) (by simp)
theorem new_ok : Holds Try.prog 41 newS := by
  refine fn_sound (env := mkEnv T0) (tab_ok T0_ok) Try.func41 Try.call41 fun args k h => ?_
  match args, h with
  | [.int .i64 n], h => exact ⟨by kernel_rfl, fun _ _ => none, fun _ _ => none, .cast (by kernel_rfl) (new_vc n k h)⟩
set_option maxHeartbeats 2000000 in
theorem rnew_vc (n : Int) (k : AV → List (Option Blk) → List Blk → Prop) (hk : (newE n ≠ (0 : Int) → k (.tup [.agg [.nilsl], .int .i64 180]) [] []) ∧ (newE n = 0 → ∀ (ys : List UInt8) (q : Nat), ys = newO n → ys.length = q → k (.tup [.agg [.row 0 0 0 q], .int .i64 0]) [] [.row 0 ys])) : br (bif decide (n < 1) then true else decide (n > 64)) ((k (.tup [.agg [.nilsl], .int .i64 180]) [] [])) (∀ (n1 : Int), (n1 = IntKind.i64.wrap (n * (64 : Int))) → (inK .i64 n1) → ((0 ≤ n1) ∧ (n1 ≤ n1) ∧ (n1 * (↑(1 : Nat) : Int) ≤ (140737488355328 : Int))) ∧ (k (.tup [.agg [.row 0 0 0 n1.toNat], .int .i64 0]) [] [.row 0 (List.replicate n1.toNat (UInt8.ofNat (Int.toNat (0 : Int))))])) := by
 refine br_intro (fun c1 => ?_) (fun c1 => ?_)
 ·
  simp at c1
  exact hk.1 (by unfold newE; rw [if_neg (by omega)]; decide)
 simp at c1
 intro n1 q1
 rw [IntKind.wrap_i64] at q1
 intro ⟨l1, u1⟩
 refine ⟨?_, ?_⟩
 ·
  refine ⟨by first | omega | (dsimp only; omega), by first | omega | (dsimp only; omega), ?_⟩
  exact by omega
 exact hk.2 (by unfold newE; rw [if_pos (by omega)]) _ _ (by unfold newO; rw [if_pos (by omega), show n1.toNat = 64 * n.toNat by omega]; rfl) (by simp)
theorem rnew_ok : Holds Try.prog 42 newS := by
  refine fn_sound (env := mkEnv T0) (tab_ok T0_ok) Try.func42 Try.call42 fun args k h => ?_
  match args, h with
  | [.int .i64 n], h => exact ⟨by kernel_rfl, fun _ _ => none, fun _ _ => none, .cast (by kernel_rfl) (rnew_vc n k h)⟩
theorem N1_ok : TabOk Try.prog N1 := ⟨check_ok, equal_ok, rmany_ok, twin_ok, trivial⟩
set_option maxHeartbeats 2000000 in
theorem many_vc (d : List UInt8) (k : AV → List (Option Blk) → List Blk → Prop) (hk : ∀ (e m : Int), e = chkE d → (m = if dOk d.length then (↑(d.length / 64) : Int) else (0 : Int)) → k (.tup [.int .i64 m, .int .i64 e]) [] []) : ∀ (e_1 : Int), (e_1 = chkE d) → br (e_1 != 0) ((k (.tup [.int .i64 0, .int .i64 e_1]) [] [])) (∀ (n3 : Int), (n3 = (↑d.length : Int)) → (inK .i64 n3) → ((64 : Int) ≠ (0 : Int)) ∧ ∀ (n6 : Int), (n6 = IntKind.i64.wrap (n3.tdiv (64 : Int))) → (inK .i64 n6) → (k (.tup [.int .i64 n6, .int .i64 0]) [] [])) := by
 intro e_1 h1
 refine br_intro (fun c2 => ?_) (fun c2 => ?_)
 ·
  simp at c2
  exact hk e_1 0 h1 (by rw [if_neg (fun c => c2 (h1.trans (chk_0.2 c)))])
 simp at c2
 intro n3 q3 ⟨l3, u3⟩
 refine ⟨by first | omega | (dsimp only; omega), ?_⟩
 intro n6 q6
 rw [Int.tdiv_eq_ediv_of_nonneg (by omega)] at q6
 rw [IntKind.wrap_i64] at q6
 intro ⟨l6, u6⟩
 exact hk 0 n6 (h1.symm.trans c2).symm (by rw [if_pos (chk_0.1 (h1.symm.trans c2))]; omega)
theorem many_ok : Holds Try.prog 64 manyS := by
  refine fn_sound (env := mkEnv N1) (tab_ok N1_ok) Try.func64 Try.call64 fun args k h => ?_
  match args, h with
  | [.agg [.sl 0 d]], h => exact ⟨by kernel_rfl, fun _ _ => none, fun _ _ => none, .cast (by kernel_rfl) (many_vc d k h)⟩
theorem N2_ok : TabOk Try.prog N2 := ⟨many_ok, trivial⟩
set_option maxHeartbeats 2000000 in
theorem asked_vc (d : List UInt8) (n : Int) (k : AV → List (Option Blk) → List Blk → Prop) (hk : ∀ (e : Int), e = askE d n → k (.int .i64 e) [] []) : ∀ (e_1 : Int), ∀ (m_2 : Int), (e_1 = chkE d) → (m_2 = if dOk d.length then (↑(d.length / 64) : Int) else (0 : Int)) → br (bif e_1 == 0 then bif decide (n < 0) then true else decide (n ≥ m_2) else false) ((k (.int .i64 2) [] [])) ((k (.int .i64 e_1) [] [])) := by
 intro e_1 m_2 h1 h2
 refine br_intro (fun c3 => ?_) (fun c3 => ?_)
 ·
  simp at c3
  refine hk 2 ?_
  have o := chk_0.1 (h1.symm.trans c3.1)
  unfold askE
  rw [if_pos o] at h2 ⊢
  rw [if_neg]
  omega
 simp at c3
 by_cases o : dOk d.length
 ·
  have z : e_1 = 0 := h1.trans (chk_0.2 o)
  rw [if_pos o] at h2
  have r := c3 z
  exact hk e_1 (by unfold askE; rw [if_pos o, if_pos (by omega)]; exact z)
 exact hk e_1 (by rw [h1]; unfold chkE askE; rw [if_neg o, if_neg o])
theorem asked_ok : Holds Try.prog 55 askedS := by
  refine fn_sound (env := mkEnv N2) (tab_ok N2_ok) Try.func55 Try.call55 fun args k h => ?_
  match args, h with
  | [.agg [.sl 0 d], .int .i64 n], h => exact ⟨by kernel_rfl, fun _ _ => none, fun _ _ => none, .cast (by kernel_rfl) (asked_vc d n k h)⟩
theorem N3_ok : TabOk Try.prog N3 := ⟨asked_ok, cloneR_ok, atA_ok, rcheck_ok, rmany_ok, rblock_ok, trivial⟩
set_option maxHeartbeats 2000000 in
theorem bread_vc (d : List UInt8) (n : Int) (hd : d.length ≤ 1000000) (k : AV → List (Option Blk) → List Blk → Prop) (hk : (∀ (e : Int), e = askE d n → e ≠ (0 : Int) → k (.tup [.nilsl, .int .i64 e]) [] []) ∧ (askE d n = 0 → ∀ (ys : List UInt8) (q : Nat), ys = rdO d n → ys.length = q → k (.tup [.row 0 0 0 q, .int .i64 0]) [] [.row 0 ys])) : ∀ (e_1 : Int), (e_1 = askE d n) → br (e_1 != 0) ((k (.tup [.nilsl, .int .i64 e_1]) [] [])) (((0 ≤ n) ∧ ((64 : Int) * n + 64 ≤ (↑d.length : Int)) ∧ (d.length ≤ 1000000)) ∧ ((blk d n).length ≤ 1000000) ∧ (k (.tup [.row 0 0 0 (blk d n).length, .int .i64 0]) [] [.row 0 (blk d n)])) := by
 intro e_1 h1
 refine br_intro (fun c2 => ?_) (fun c2 => ?_)
 ·
  simp at c2
  exact hk.1 e_1 h1 c2
 simp at c2
 refine ⟨?_, ?_⟩
 ·
  have h3 : (0 : Int) ≤ n := by
   have o := ask_0.1 (h1.symm.trans c2)
   omega
  refine ⟨h3, ?_⟩
  have h4 : (64 : Int) * n + (64 : Int) ≤ (↑d.length : Int) := by
   have o := ask_0.1 (h1.symm.trans c2)
   have := room o.1.2.2 o.2.1 o.2.2
   omega
  refine ⟨h4, ?_⟩
  exact by assumption
 have h5 : (blk d n).length ≤ (1000000 : Nat) := by
  unfold blk
  rw [List.length_take]
  omega
 refine ⟨h5, ?_⟩
 have z := h1.symm.trans c2
 exact hk.2 z _ _ (by unfold rdO; rw [if_pos z]) rfl
theorem bread_ok : Holds Try.prog 65 rdS := by
  refine fn_sound (env := mkEnv N3) (tab_ok N3_ok) Try.func65 Try.call65 fun args k h => ?_
  match args, h with
  | [.agg [.sl 0 d], .int .i64 n], h => exact ⟨by kernel_rfl, fun _ _ => none, fun _ _ => none, .cast (by kernel_rfl) (bread_vc d n h.1 k h.2)⟩
def N4 : Tab := [(54, checkS), (55, askedS), (56, cloneS), (57, atB)]
theorem N4_ok : TabOk Try.prog N4 := ⟨check_ok, asked_ok, cloneR_ok, atb_ok, trivial⟩
end Go.Proofs.Ytcdflgfhkohldaa
