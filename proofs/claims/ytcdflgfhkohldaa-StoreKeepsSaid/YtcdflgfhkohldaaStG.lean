import Derived.Test.YtcdflgfhkohldaaStE
namespace Go.Proofs.Ytcdflgfhkohldaa
open Go Go.Eng Go.Rw Go.Lk Go.Proofs
open Go.Bk hiding take_step drop_step set_mid
open Go.St hiding take_step
set_option linter.unusedVariables false
def ticksS : Eng.Spec := { ro := true, own := [], run := fun args _ k => match args with
  | [.sl 1 [(n : Int)]] => inK .i64 n ∧ ∀ r : Bool, (r = true ↔ 1 ≤ n ∧ n ≤ 1048576) → k (.bool r) [] []
  | _ => False }
def ticksLoops (n : Int) : List Nat → Nat → Option LoopAnn := fun _ r => match r with
  | 2 => some { V := Nat, st := fun v => ⟨mk 15 [(5, .sl 1 [n]), (6, .int .i64 1), (7, .int .i64 v)], [], []⟩, I := fun v => v ≤ 1 ∧ (v = 1 → 1 ≤ n ∧ n ≤ 1048576), μ := fun v => 1 - v }
  | _ => none
def wholeS : Eng.Spec := { ro := true, own := [], run := fun args _ k => match args with
  | [.sl 10 l] => (∀ e : Int, e = wholeE l → e ≠ 0 → (e = 4 ∨ e = 170) → k (.tup [.nilsl, .int .i64 e]) [] []) ∧ (wholeE l = 0 → ∀ (ys : List UInt8) (n : Nat), ys = wholeO l → ys.length = n → k (.tup [.row 0 0 0 n, .int .i64 0]) [] [.row 0 ys])
  | _ => False }
def wholeD : Eng.Spec := { ro := true, own := [], run := fun args _ k => match args with
  | [.sl 10 l] => ∀ (e : Int) (ys : List UInt8) (n : Nat), e = wholeE l → (e = 0 ∨ e = 4 ∨ e = 170) → ys = wholeO l → ys.length = n → n ≤ 1000 → k (.tup [.row 0 0 0 n, .int .i64 e]) [] [.row 0 ys]
  | _ => False }
theorem whole_up {f : FuncId} (hf : Holds Try.prog f wholeS) : Holds Try.prog f wholeD := hf.nlAt 0 0 rfl rfl rfl fun args k h => by
  unfold wholeD at h
  dsimp only at h
  split at h
  · refine ⟨fun e he hz hc => h e [] 0 he (by omega) (by unfold wholeO; rw [if_neg (by rw [← he]; exact hz)]) rfl (by omega), fun hz ys n hy hn => h 0 ys n hz.symm (.inl rfl) hy hn (by rw [← hn, hy]; exact wholeO_len _)⟩
  · exact h.elim
def wholeLoops (l : List Plan) : List Nat → Nat → Option LoopAnn := fun s r => match r, s with
  | 5, _ => some { V := Nat × Nat × List UInt8, st := fun v => ⟨mk 70 [(4, .row 0 7777 0 v.2.1), (16, .sl 10 l), (17, .int .i64 l.length), (18, .int .i64 v.1)], [], [(7777, .row 0 v.2.2)]⟩, I := fun v => v.1 ≤ l.length ∧ l.length ≤ 8 ∧ v.2.2.length = v.2.1 ∧ v.2.1 ≤ 900 ∧ WO l v.1 v.2.2, μ := fun v => l.length - v.1, boxes := [(4, 7777, 0)], key := fun v => v.1 }
  | 11, i :: _ => some { V := Nat × Nat × List UInt8, st := fun v => ⟨mk 70 [(4, .row 0 7778 0 v.2.1), (16, .sl 10 l), (17, .int .i64 l.length), (18, .int .i64 i), (54, .sl 1 (l.getD i (dflt 10)).splits), (55, .int .i64 (l.getD i (dflt 10)).splits.length), (56, .int .i64 v.1)], [], [(7778, .row 0 v.2.2)]⟩, I := fun v => v.1 ≤ (l.getD i (dflt 10)).splits.length ∧ v.2.2.length = v.2.1 ∧ v.2.1 ≤ 1100 ∧ WJ l i v.1 v.2.2, μ := fun v => (l.getD i (dflt 10)).splits.length - v.1, boxes := [(4, 7778, 0)] }
  | _, _ => none
def rwholeLoops (l : List Plan) : List Nat → Nat → Option LoopAnn := fun s r => match r, s with
  | 5, _ => some { V := Nat × Nat × List UInt8, st := fun v => ⟨mk 80 [(0, .sl 10 l), (4, .row 0 7777 0 v.2.1), (5, .int .i64 v.1)], [], [(7777, .row 0 v.2.2)]⟩, I := fun v => v.1 ≤ l.length ∧ l.length ≤ 8 ∧ v.2.2.length = v.2.1 ∧ v.2.1 ≤ 900 ∧ WO l v.1 v.2.2, μ := fun v => l.length - v.1, boxes := [(4, 7777, 0)], key := fun v => v.1 }
  | 12, i :: _ => some { V := Nat × Nat × List UInt8, st := fun v => ⟨mk 80 [(0, .sl 10 l), (4, .row 0 7778 0 v.2.1), (5, .int .i64 i), (6, .ptr 8004 0), (7, .int .i64 v.1)], [], [(7778, .row 0 v.2.2), (8004, .cells [.int .i64 (l.getD i (dflt 10)).cycle, .int .i64 (l.getD i (dflt 10)).offset, .sl 1 (l.getD i (dflt 10)).splits])]⟩, I := fun v => v.1 ≤ (l.getD i (dflt 10)).splits.length ∧ v.2.2.length = v.2.1 ∧ v.2.1 ≤ 1100 ∧ WJ l i v.1 v.2.2, μ := fun v => (l.getD i (dflt 10)).splits.length - v.1, boxes := [(4, 7778, 0)] }
  | _, _ => none
def F1 : Tab := [(60, inS), (58, putX), (59, ticksS)]
def F1r : Tab := [(63, inS), (62, smsS)]
end Go.Proofs.Ytcdflgfhkohldaa
namespace Go.Proofs.Ytcdflgfhkohldaa
open Go Go.Eng Go.Rw Go.Lk Go.Proofs
open Go.Bk hiding take_step drop_step set_mid
open Go.St hiding take_step
set_option linter.unusedVariables false
set_option maxHeartbeats 2000000 in
theorem ticks_vc (n : Int) (n0 : -9223372036854775808 ≤ n) (n1 : n ≤ 9223372036854775807) (k : AV → List (Option Blk) → List Blk → Prop) (hk : ∀ (r : Bool), (r = true ↔ 1 ≤ n ∧ n ≤ 1048576) → k (.bool r) [] []) : ∀ (n1 : Int), (n1 = (↑[n].length : Int)) → (inK .i64 n1) → (∃ (v : Nat), ([n] = [n]) ∧ (n1 = 1) ∧ ((0 : Int) = (↑v : Int)) ∧ (v ≤ 1) ∧ ((v = 1) → (1 ≤ n) ∧ (n ≤ 1048576))) ∧ ∀ (v_4 : Nat), (v_4 ≤ 1 ∧ (v_4 = 1 → 1 ≤ n ∧ n ≤ 1048576)) → br (decide ((↑v_4 : Int) < (1 : Int))) (((0 : Int) ≤ (↑v_4 : Int)) ∧ ((↑v_4 : Int) < (↑[n].length : Int)) ∧ ∀ (n6 : Int), (n6 = [n].getD (↑v_4 : Int).toNat (0 : Int)) → (inK .i64 n6) → ∀ (r_9 : Bool), (r_9 = true ↔ 1 ≤ n6 ∧ n6 ≤ 1048576) → br (!r_9) ((k (.bool false) [] [])) (∀ (n11 : Int), (n11 = IntKind.i64.wrap ((↑v_4 : Int) + (1 : Int))) → (inK .i64 n11) → ∃ (v' : Nat), ([n] = [n]) ∧ ((1 : Int) = (1 : Int)) ∧ (n11 = (↑v' : Int)) ∧ ((v' ≤ 1) ∧ ((v' = 1) → (1 ≤ n) ∧ (n ≤ 1048576))) ∧ (1 - v' < 1 - v_4))) ((k (.bool true) [] [])) := by
 intro n1 q1 ⟨l1, u1⟩
 refine ⟨?_, ?_⟩
 ·
  refine ⟨Int.toNat (0 : Int), rfl, by show n1 = (1 : Int); assumption, by show (0 : Int) = (↑(Int.toNat (0 : Int)) : Int); omega, by show Int.toNat (0 : Int) ≤ (1 : Nat); omega, ?_⟩
  intro h1
  refine ⟨by show (1 : Int) ≤ n; omega, ?_⟩
  exact by show n ≤ (1048576 : Int); omega
 intro v_4 h2
 refine brd (fun c3 => ?_) (fun c3 => ?_)
 ·
  refine ⟨by first | omega | (dsimp only; omega), by assumption, ?_⟩
  intro n6 q6 ⟨l6, u6⟩ r_9 h4
  refine br_intro (fun c5 => ?_) (fun c5 => ?_)
  ·
   simp at c5
   have e6 : n6 = n := by rw [q6, show v_4 = 0 by omega]; rfl
   rw [e6] at h4
   refine hk false ⟨fun c => (by cases c), fun c => ?_⟩
   rw [h4.2 c] at c5; cases c5
  simp at c5
  intro n11 q11
  rw [IntKind.wrap_i64] at q11
  intro ⟨l11, u11⟩
  refine ⟨n11.toNat, rfl, rfl, by show n11 = (↑n11.toNat : Int); omega, ?_⟩
  refine ⟨?_, ?_⟩
  ·
   refine ⟨by show n11.toNat ≤ (1 : Nat); omega, ?_⟩
   intro h6
   have h7 : (1 : Int) ≤ n := by
    have e6 : n6 = n := by rw [q6, show v_4 = 0 by omega]; rfl
    rw [e6] at h4
    exact (h4.1 c5).1
   refine ⟨h7, ?_⟩
   have e6 : n6 = n := by rw [q6, show v_4 = 0 by omega]; rfl
   rw [e6] at h4
   exact (h4.1 c5).2
  exact by show (1 : Nat) - n11.toNat < (1 : Nat) - v_4; omega
 exact hk true ⟨fun _ => h2.2 (by omega), fun _ => rfl⟩
theorem ticks_ok : Holds Try.prog 59 ticksS := by
  refine fn_sound (env := mkEnv M1) (tab_ok M1_ok) Try.func59 Try.call59 fun args k h => ?_
  match args, h with
  | [.sl 1 [n]], h => exact ⟨by kernel_rfl, ticksLoops n, fun _ _ => none, .cast (by kernel_rfl) (ticks_vc n h.1.1 h.1.2 k h.2)⟩
theorem F1_ok : TabOk Try.prog F1 := ⟨sin_ok, sput_ok, ticks_ok, trivial⟩
set_option maxHeartbeats 2000000 in
theorem whole_vc (l : List Plan) (k : AV → List (Option Blk) → List Blk → Prop) (hk : (∀ (e : Int), e = wholeE l → e ≠ (0 : Int) → e = 4 ∨ e = 170 → k (.tup [.nilsl, .int .i64 e]) [] []) ∧ (wholeE l = 0 → ∀ (ys : List UInt8) (n : Nat), ys = wholeO l → ys.length = n → k (.tup [.row 0 0 0 n, .int .i64 0]) [] [.row 0 ys])) : ∀ (n1 : Int), (n1 = (↑l.length : Int)) → (inK .i64 n1) → br (decide (n1 > 8)) ((k (.tup [.nilsl, .int .i64 4]) [] [])) (∀ (n4 : Int), (n4 = (↑l.length : Int)) → (inK .i64 n4) → ((List.take 1 (List.drop 0 [n4])).length ≤ 1000000) ∧ ∀ (ys_7 : List UInt8), ∀ (n_8 : Nat), (ys_7 = sms (List.take 1 (List.drop 0 [n4]))) → (ys_7.length = n_8) → ∀ (n11 : Int), (n11 = (↑l.length : Int)) → (inK .i64 n11) → (∃ (v : Nat × Nat × List UInt8), (0 = 0) ∧ (n_8 = v.snd.fst) ∧ (l = l) ∧ (n11 = (↑l.length : Int)) ∧ ((0 : Int) = (↑v.fst : Int)) ∧ (ys_7 = v.snd.snd) ∧ (v.fst ≤ l.length) ∧ (l.length ≤ 8) ∧ (v.snd.snd.length = v.snd.fst) ∧ (v.snd.fst ≤ 900) ∧ (WO l v.fst v.snd.snd)) ∧ ∀ (v_14 : Nat × Nat × List UInt8), (v_14.fst ≤ l.length ∧ l.length ≤ 8 ∧ v_14.snd.snd.length = v_14.snd.fst ∧ v_14.snd.fst ≤ 900 ∧ WO l v_14.fst v_14.snd.snd) → br (decide ((↑v_14.fst : Int) < (↑l.length : Int))) (((0 : Int) ≤ (↑v_14.fst : Int)) ∧ ((↑v_14.fst : Int) < (↑l.length : Int)) ∧ ∀ (n16 : Int), (n16 = (l.getD (↑v_14.fst : Int).toNat (dflt 10)).cycle) → (inK .i64 n16) → ((-9223372036854775808 ≤ n16) ∧ (n16 ≤ 9223372036854775807)) ∧ ∀ (r_19 : Bool), (r_19 = true ↔ 1 ≤ n16 ∧ n16 ≤ 1048576) → ∀ (n21 : Int), (n21 = (l.getD (↑v_14.fst : Int).toNat (dflt 10)).offset) → ∀ (n23 : Int), (n23 = (l.getD (↑v_14.fst : Int).toNat (dflt 10)).cycle) → ∀ (n25 : Int), (n25 = IntKind.i64.wrap (n23 - 1)) → br (!r_19) ((true = true) ∧ ∀ (n27 : Int), (n27 = (↑(l.getD (↑v_14.fst : Int).toNat (dflt 10)).splits.length : Int)) → (true = true) ∧ (k (.tup [.nilsl, .int .i64 170]) [] [])) (∀ (r_28 : Bool), (r_28 = true ↔ 0 ≤ n21 ∧ n21 ≤ n25) → ∀ (n30 : Int), (n30 = (↑(l.getD (↑v_14.fst : Int).toNat (dflt 10)).splits.length : Int)) → br (bif false then true else !r_28) ((true = true) ∧ (k (.tup [.nilsl, .int .i64 170]) [] [])) (∀ (r_32 : Bool), (r_32 = true ↔ 1 ≤ n30 ∧ n30 ≤ 8) → br (bif false then true else !r_32) ((k (.tup [.nilsl, .int .i64 170]) [] [])) (∀ (n34 : Int), (n34 = (l.getD (↑v_14.fst : Int).toNat (dflt 10)).cycle) → (inK .i64 n34) → ∀ (n37 : Int), (n37 = (l.getD (↑v_14.fst : Int).toNat (dflt 10)).offset) → (inK .i64 n37) → ∀ (n40 : Int), (n40 = (↑(l.getD (↑v_14.fst : Int).toNat (dflt 10)).splits.length : Int)) → (inK .i64 n40) → ((v_14.snd.fst = v_14.snd.snd.length) ∧ (v_14.snd.fst ≤ 1000000) ∧ ((List.take 3 (List.drop 0 [n34, n37, n40])).length ≤ 1000000)) ∧ ∀ (ys_43 : List UInt8), ∀ (n_44 : Nat), (ys_43 = v_14.snd.snd ++ sms (List.take 3 (List.drop 0 [n34, n37, n40]))) → (ys_43.length = n_44) → ∀ (n47 : Int), (n47 = (↑(l.getD (↑v_14.fst : Int).toNat (dflt 10)).splits.length : Int)) → (inK .i64 n47) → (∃ (v : Nat × Nat × List UInt8), (0 = 0) ∧ (n_44 = v.snd.fst) ∧ (l = l) ∧ ((↑l.length : Int) = (↑l.length : Int)) ∧ ((↑v_14.fst : Int) = (↑v_14.fst : Int)) ∧ ((l.getD (↑v_14.fst : Int).toNat (dflt 10)).splits = (l.getD v_14.fst (dflt 10)).splits) ∧ (n47 = (↑(l.getD v_14.fst (dflt 10)).splits.length : Int)) ∧ ((0 : Int) = (↑v.fst : Int)) ∧ (ys_43 = v.snd.snd) ∧ (v.fst ≤ (l.getD v_14.fst (dflt 10)).splits.length) ∧ (v.snd.snd.length = v.snd.fst) ∧ (v.snd.fst ≤ 1100) ∧ (WJ l v_14.fst v.fst v.snd.snd)) ∧ ∀ (v_50 : Nat × Nat × List UInt8), (v_50.fst ≤ (l.getD v_14.fst (dflt 10)).splits.length ∧ v_50.snd.snd.length = v_50.snd.fst ∧ v_50.snd.fst ≤ 1100 ∧ WJ l v_14.fst v_50.fst v_50.snd.snd) → br (decide ((↑v_50.fst : Int) < (↑(l.getD v_14.fst (dflt 10)).splits.length : Int))) (((0 : Int) ≤ (↑v_50.fst : Int)) ∧ ((↑v_50.fst : Int) < (↑(l.getD v_14.fst (dflt 10)).splits.length : Int)) ∧ ∀ (n52 : Int), (n52 = (l.getD v_14.fst (dflt 10)).splits.getD (↑v_50.fst : Int).toNat (0 : Int)) → (inK .i64 n52) → ∀ (r_55 : Bool), (r_55 = true ↔ 0 ≤ n52 ∧ n52 ≤ 1048576) → br (!r_55) ((k (.tup [.nilsl, .int .i64 170]) [] [])) (((v_50.snd.fst = v_50.snd.snd.length) ∧ (v_50.snd.fst ≤ 1000000) ∧ ((List.take 1 (List.drop 0 [n52])).length ≤ 1000000)) ∧ ∀ (ys_57 : List UInt8), ∀ (n_58 : Nat), (ys_57 = v_50.snd.snd ++ sms (List.take 1 (List.drop 0 [n52]))) → (ys_57.length = n_58) → ∀ (n61 : Int), (n61 = IntKind.i64.wrap ((↑v_50.fst : Int) + (1 : Int))) → (inK .i64 n61) → ∃ (v' : Nat × Nat × List UInt8), (0 = 0) ∧ (n_58 = v'.snd.fst) ∧ (l = l) ∧ ((↑l.length : Int) = (↑l.length : Int)) ∧ ((↑v_14.fst : Int) = (↑v_14.fst : Int)) ∧ ((l.getD v_14.fst (dflt 10)).splits = (l.getD v_14.fst (dflt 10)).splits) ∧ ((↑(l.getD v_14.fst (dflt 10)).splits.length : Int) = (↑(l.getD v_14.fst (dflt 10)).splits.length : Int)) ∧ (n61 = (↑v'.fst : Int)) ∧ (ys_57 = v'.snd.snd) ∧ ((v'.fst ≤ (l.getD v_14.fst (dflt 10)).splits.length) ∧ (v'.snd.snd.length = v'.snd.fst) ∧ (v'.snd.fst ≤ 1100) ∧ (WJ l v_14.fst v'.fst v'.snd.snd)) ∧ ((l.getD v_14.fst (dflt 10)).splits.length - v'.fst < (l.getD v_14.fst (dflt 10)).splits.length - v_50.fst))) (∀ (n64 : Int), (n64 = IntKind.i64.wrap ((↑v_14.fst : Int) + (1 : Int))) → (inK .i64 n64) → ∃ (v' : Nat × Nat × List UInt8), (0 = 0) ∧ (v_50.snd.fst = v'.snd.fst) ∧ (l = l) ∧ ((↑l.length : Int) = (↑l.length : Int)) ∧ (n64 = (↑v'.fst : Int)) ∧ (v_50.snd.snd = v'.snd.snd) ∧ ((v'.fst ≤ l.length) ∧ (l.length ≤ 8) ∧ (v'.snd.snd.length = v'.snd.fst) ∧ (v'.snd.fst ≤ 900) ∧ (WO l v'.fst v'.snd.snd)) ∧ (l.length - v'.fst < l.length - v_14.fst)))))) ((k (.tup [.row 0 0 0 v_14.snd.fst, .int .i64 0]) [] [.row 0 v_14.snd.snd]))) := by
 intro n1 q1 ⟨l1, u1⟩
 refine brd (fun c1 => ?_) (fun c1 => ?_)
 ·
  exact hk.1 4 (wholeE_4 (by omega)).symm (by decide) (.inl rfl)
 intro n4 q4 ⟨l4, u4⟩
 have h2 : (List.take (1 : Nat) (List.drop (0 : Nat) [n4])).length ≤ (1000000 : Nat) := by
  simp
 refine ⟨h2, ?_⟩
 intro ys_7 n_8 h3 h4 n11 q11 ⟨l11, u11⟩
 refine ⟨?_, ?_⟩
 ·
  refine ⟨(Int.toNat (0 : Int), n_8, ys_7), rfl, rfl, rfl, by show n11 = (↑l.length : Int); assumption, by show (0 : Int) = (↑(Int.toNat (0 : Int)) : Int); omega, rfl, by show Int.toNat (0 : Int) ≤ l.length; omega, by show l.length ≤ (8 : Nat); omega, by show ys_7.length = n_8; assumption, ?_⟩
  have h5 : n_8 ≤ (900 : Nat) := by
   have w := wo_0 l (ys := ys_7) (by rw [h3, q4]; rfl)
   have := w.len (by omega) (by omega)
   omega
  refine ⟨h5, ?_⟩
  exact wo_0 l (by rw [h3, q4]; rfl)
 intro v_14 h6
 refine brd (fun c7 => ?_) (fun c7 => ?_)
 ·
  refine ⟨by first | omega | (dsimp only; omega), by assumption, ?_⟩
  intro n16 q16 ⟨l16, u16⟩
  refine ⟨by exact ⟨by assumption, by assumption⟩, ?_⟩
  intro r_19 h8 n21 q21 n23 q23 n25 q25
  rw [IntKind.wrap_i64] at q25
  refine br_intro (fun c9 => ?_) (fun c9 => ?_)
  ·
   simp at c9
   refine ⟨by with_reducible rfl, ?_⟩
   intro n27 q27
   refine ⟨by with_reducible rfl, ?_⟩
   exact hk.1 170 (wholeE_170 (by omega) (i := v_14.fst) (by omega) fun p => by have := h8.2 (by rw [q16, Int.toNat_natCast]; exact p.a); rw [this] at c9; cases c9).symm (by decide) (.inr rfl)
  simp at c9
  intro r_28 h10 n30 q30
  refine br_intro (fun c11 => ?_) (fun c11 => ?_)
  ·
   simp at c11
   refine ⟨by with_reducible rfl, ?_⟩
   exact hk.1 170 (wholeE_170 (by omega) (i := v_14.fst) (by omega) fun p => by have pa := p.a; have pb := p.b; rw [Int.toNat_natCast] at q21 q23; rw [← q23] at pa pb; rw [← q21] at pb; have := h10.2 (by omega); rw [this] at c11; cases c11).symm (by decide) (.inr rfl)
  simp at c11
  intro r_32 h12
  refine br_intro (fun c13 => ?_) (fun c13 => ?_)
  ·
   simp at c13
   exact hk.1 170 (wholeE_170 (by omega) (i := v_14.fst) (by omega) fun p => by have pc := p.c; rw [Int.toNat_natCast] at q30; have := h12.2 (by omega); rw [this] at c13; cases c13).symm (by decide) (.inr rfl)
  simp at c13
  intro n34 q34 ⟨l34, u34⟩ n37 q37 ⟨l37, u37⟩ n40 q40 ⟨l40, u40⟩
  refine ⟨?_, ?_⟩
  ·
   refine ⟨by first | omega | (dsimp only; omega), by first | omega | (dsimp only; omega), ?_⟩
   simp
  intro ys_43 n_44 h14 h15 n47 q47 ⟨l47, u47⟩
  refine ⟨?_, ?_⟩
  ·
   refine ⟨(Int.toNat (0 : Int), n_44, ys_43), rfl, rfl, rfl, rfl, rfl, by rfl, by show n47 = (↑(l.getD v_14.fst (dflt (10 : Nat))).splits.length : Int); assumption, by show (0 : Int) = (↑(Int.toNat (0 : Int)) : Int); omega, rfl, by show Int.toNat (0 : Int) ≤ (l.getD v_14.fst (dflt (10 : Nat))).splits.length; omega, by show ys_43.length = n_44; assumption, ?_⟩
   have h16 : n_44 ≤ (1100 : Nat) := by
    rw [Int.toNat_natCast] at q16 q21 q23 q30 q34 q37 q40
    have e1 : n16 = n34 := q16.trans q34.symm
    have e2 : n21 = n37 := q21.trans q37.symm
    have e3 : n23 = n34 := q23.trans q34.symm
    have e4 : n30 = n40 := q30.trans q40.symm
    have a := h8.1 c9
    have b := h10.1 c11
    have c := h12.1 c13
    have w : WJ l v_14.fst 0 ys_43 := wj_0 h6.2.2.2.2 q34 q37 rfl (by omega) (by omega) (by omega) (by rw [h14, q40]; rfl)
    have := w.len (by omega) (by omega)
    omega
   refine ⟨h16, ?_⟩
   rw [Int.toNat_natCast] at q16 q21 q23 q30 q34 q37 q40
   have e1 : n16 = n34 := q16.trans q34.symm
   have e2 : n21 = n37 := q21.trans q37.symm
   have e3 : n23 = n34 := q23.trans q34.symm
   have e4 : n30 = n40 := q30.trans q40.symm
   have a := h8.1 c9
   have b := h10.1 c11
   have c := h12.1 c13
   have w : WJ l v_14.fst 0 ys_43 := wj_0 h6.2.2.2.2 q34 q37 rfl (by omega) (by omega) (by omega) (by rw [h14, q40]; rfl)
   exact w
  intro v_50 h17
  refine brd (fun c18 => ?_) (fun c18 => ?_)
  ·
   refine ⟨by first | omega | (dsimp only; omega), by assumption, ?_⟩
   intro n52 q52 ⟨l52, u52⟩ r_55 h19
   refine br_intro (fun c20 => ?_) (fun c20 => ?_)
   ·
    simp at c20
    exact hk.1 170 (wj_bad h17.2.2.2 (by omega) (by omega) (j := v_50.fst) (x := n52) (by omega) (by rw [q52, Int.toNat_natCast]) (fun c => by rw [h19.2 c] at c20; cases c20)).symm (by decide) (.inr rfl)
   simp at c20
   refine ⟨?_, ?_⟩
   ·
    refine ⟨by first | omega | (dsimp only; omega), by first | omega | (dsimp only; omega), ?_⟩
    exact by assumption
   intro ys_57 n_58 h21 h22 n61 q61
   rw [IntKind.wrap_i64] at q61
   intro ⟨l61, u61⟩
   refine ⟨(n61.toNat, n_58, ys_57), rfl, rfl, rfl, rfl, rfl, rfl, rfl, ?_⟩
   have h23 : n61 = (↑n61.toNat : Int) := by
    have := h17.2.2.2.c.2
    omega
   refine ⟨h23, rfl, ?_⟩
   refine ⟨?_, ?_⟩
   ·
    refine ⟨by show n61.toNat ≤ (l.getD v_14.fst (dflt (10 : Nat))).splits.length; omega, by show ys_57.length = n_58; assumption, ?_⟩
    have h24 : n_58 ≤ (1100 : Nat) := by
     have hc := h17.2.2.2.c.2
     have w := wj_step h17.2.2.2 (by omega) (by rw [q52, Int.toNat_natCast]) (h19.1 c20) (zs := ys_57) (by rw [h21]; rfl)
     have := w.len (by omega) (by omega)
     omega
    refine ⟨h24, ?_⟩
    have hc := h17.2.2.2.c.2
    have w := wj_step h17.2.2.2 (by omega) (by rw [q52, Int.toNat_natCast]) (h19.1 c20) (zs := ys_57) (by rw [h21]; rfl)
    rw [show n61.toNat = v_50.fst + 1 by omega]; exact w
   have := h17.2.2.2.c.2
   omega
  intro n64 q64
  rw [IntKind.wrap_i64] at q64
  intro ⟨l64, u64⟩
  refine ⟨(n64.toNat, v_50.snd.fst, v_50.snd.snd), rfl, rfl, rfl, rfl, by show n64 = (↑n64.toNat : Int); omega, rfl, ?_⟩
  refine ⟨?_, ?_⟩
  ·
   refine ⟨by show n64.toNat ≤ l.length; omega, by show l.length ≤ (8 : Nat); omega, by show v_50.snd.snd.length = v_50.snd.fst; omega, ?_⟩
   have h25 : v_50.snd.fst ≤ (900 : Nat) := by
    have w := wj_end h17.2.2.2 (by omega) (by omega)
    have := w.len (by omega) (by omega)
    omega
   refine ⟨h25, ?_⟩
   have w := wj_end h17.2.2.2 (by omega) (by omega)
   rw [show n64.toNat = v_14.fst + 1 by omega]; exact w
  exact by show l.length - n64.toNat < l.length - v_14.fst; omega
 obtain ⟨e1, e2⟩ := wo_end h6.2.2.2.2 (by omega) (by omega)
 exact hk.2 e1 _ _ e2 h6.2.2.1
theorem whole_ok : Holds Try.prog 33 wholeS := by
  refine fn_sound (env := mkEnv F1) (tab_ok F1_ok) Try.func33 Try.call33 fun args k h => ?_
  match args, h with
  | [.sl 10 l], h => exact ⟨by kernel_rfl, wholeLoops l, fun _ _ => none, .cast (by kernel_rfl) (whole_vc l k h)⟩
theorem wholeU_ok : Holds Try.prog 33 wholeD := whole_up whole_ok
end Go.Proofs.Ytcdflgfhkohldaa
