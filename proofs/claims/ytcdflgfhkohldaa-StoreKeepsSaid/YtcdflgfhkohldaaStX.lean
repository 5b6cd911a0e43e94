import Derived.Test.YtcdflgfhkohldaaStW
namespace Go.Proofs.Ytcdflgfhkohldaa
open Go Go.Eng Go.Rw Go.Lk Go.Proofs
open Go.Bk hiding take_step drop_step set_mid
open Go.St hiding take_step
set_option linter.unusedVariables false
set_option maxHeartbeats 2000000 in
theorem format_vc (n : Int) (k : AV → List (Option Blk) → List Blk → Prop) (hk : (∀ (e : Int), e = fmtE n → e ≠ (0 : Int) → 0 ≤ e ∧ e ≤ 190 → k (.tup [.agg [.nilsl], .int .i64 e]) [] []) ∧ (fmtE n = 0 → ∀ (ys : List UInt8) (q : Nat), ys = fmtO n → ys.length = q → k (.tup [.agg [.row 0 0 0 q], .int .i64 0]) [] [.row 0 ys])) : ((newE n ≠ (0 : Int)) → (k (.tup [.agg [.nilsl], .int .i64 180]) [] [])) ∧ ((newE n = 0) → ∀ (ys_1 : List UInt8), ∀ (q_2 : Nat), (ys_1 = newO n) → (ys_1.length = q_2) → br (bif (0 : Int) == (0 : Int) then n == 1 else false) ((k (.tup [.agg [.nilsl], .int .i64 190]) [] [])) ((k (.tup [.agg [.row 0 0 0 q_2], .int .i64 0]) [] [.row 0 ys_1]))) := by
 refine ⟨?_, ?_⟩
 ·
  intro h1
  have hn : ¬ (1 ≤ n ∧ n ≤ 64) := fun c => h1 (by unfold newE; rw [if_pos c])
  exact hk.1 _ (fmt_180 hn) (by decide) (by omega)
 intro h2 ys_1 q_2 h3 h4
 refine br_intro (fun c5 => ?_) (fun c5 => ?_)
 ·
  simp at c5
  have hn : 1 ≤ n ∧ n ≤ 64 := by
   unfold newE at h2
   split at h2
   ·
    assumption
   cases h2
  exact hk.1 _ (fmt_190 hn c5) (by decide) (by omega)
 simp at c5
 have hn : 1 ≤ n ∧ n ≤ 64 := by
  unfold newE at h2
  split at h2
  ·
   assumption
  cases h2
 have z := fmt_0 hn c5
 exact hk.2 z _ _ (by unfold fmtO; rw [if_pos z, h3]; unfold newO; rw [if_pos hn]) h4
theorem format_ok : Holds Try.prog 15 formatS := by
  refine fn_sound (env := mkEnv G1) (tab_ok G1_ok) Try.func15 Try.call15 fun args k h => ?_
  match args, h with
  | [.int .i64 n], h => exact ⟨by kernel_rfl, fun _ _ => none, fun _ _ => none, .cast (by kernel_rfl) (format_vc n k h)⟩
set_option maxHeartbeats 2000000 in
theorem zSlot_vc (d : List UInt8) (i : Int) (k : AV → List (Option Blk) → List Blk → Prop) (hk : (∀ (e : Int), e = askD d → e ≠ (0 : Int) → k (.tup [.agg [.int .i64 0, .int .u8 0, .nilsl], .int .i64 e]) [] []) ∧ (D2 d → ¬(i = 0 ∨ i = 1) → k (.tup [.agg [.int .i64 0, .int .u8 0, .nilsl], .int .i64 2]) [] []) ∧ (D2 d → i = 0 ∨ i = 1 → KF (slotL d i) false (0 : Int) (0 : Int) [] → k (.tup [.agg [.int .i64 0, .int .u8 0, .nilsl], .int .i64 8]) [] []) ∧ (D2 d → i = 0 ∨ i = 1 → ∀ (g m : Int) (ps : List Plan), KF (slotL d i) true g m ps → k (.tup [.agg [.int .i64 g, .int .u8 m, .sl 10 ps], .int .i64 0]) [] [])) : (∀ (e_1 : Int), (e_1 = askD d) → (e_1 ≠ (0 : Int)) → (0 ≤ e_1 ∧ e_1 ≤ 190) → br (e_1 != 0) ((k (.tup [.agg [.int .i64 0, .int .u8 0, .nilsl], .int .i64 e_1]) [] [])) (br (bif i != 0 then i != 1 else false) ((k (.tup [.agg [.int .i64 0, .int .u8 0, .nilsl], .int .i64 2]) [] [])) (((0 ≤ i) ∧ (i ≤ 1)) ∧ ((i = 0) → ((0 : Int) ≤ (0 : Int)) ∧ ((0 : Int) < (↑(2 : Nat) : Int)) ∧ (False)) ∧ ((i = 1) → ((0 : Int) ≤ (1 : Int)) ∧ ((1 : Int) < (↑(2 : Nat) : Int)) ∧ (False))))) ∧ ((D2 d) → ∀ (h0_5 : Bool), ∀ (g0_6 : Int), ∀ (m0_7 : Int), ∀ (p0_8 : List Plan), ∀ (b0_9 : List (List UInt8)), ∀ (h1_10 : Bool), ∀ (g1_11 : Int), ∀ (m1_12 : Int), ∀ (p1_13 : List Plan), ∀ (b1_14 : List (List UInt8)), (Sl2 d h0_5 g0_6 m0_7 p0_8 b0_9 h1_10 g1_11 m1_12 p1_13 b1_14) → ((0 ≤ g0_6 ∧ g0_6 ≤ 4611686018427387903) ∧ 0 ≤ m0_7 ∧ m0_7 ≤ 3) → ((0 ≤ g1_11 ∧ g1_11 ≤ 4611686018427387903) ∧ 0 ≤ m1_12 ∧ m1_12 ≤ 3) → (b0_9.length = half d ∧ b1_14.length = half d) → br (bif i != 0 then i != 1 else false) ((k (.tup [.agg [.int .i64 0, .int .u8 0, .nilsl], .int .i64 2]) [] [])) (((0 ≤ i) ∧ (i ≤ 1)) ∧ ((i = 0) → ((0 : Int) ≤ (0 : Int)) ∧ ((0 : Int) < (↑(2 : Nat) : Int)) ∧ br (!h0_5) ((k (.tup [.agg [.int .i64 0, .int .u8 0, .nilsl], .int .i64 8]) [] [])) (((0 ≤ i) ∧ (i ≤ 1)) ∧ ((i = 0) → ((0 : Int) ≤ (0 : Int)) ∧ ((0 : Int) < (↑(2 : Nat) : Int)) ∧ (k (.tup [.agg [.int .i64 g0_6, .int .u8 m0_7, .sl 10 p0_8], .int .i64 0]) [] [])) ∧ ((i = 1) → ((0 : Int) ≤ (1 : Int)) ∧ ((1 : Int) < (↑(2 : Nat) : Int)) ∧ (k (.tup [.agg [.int .i64 g1_11, .int .u8 m1_12, .sl 10 p1_13], .int .i64 0]) [] [])))) ∧ ((i = 1) → ((0 : Int) ≤ (1 : Int)) ∧ ((1 : Int) < (↑(2 : Nat) : Int)) ∧ br (!h1_10) ((k (.tup [.agg [.int .i64 0, .int .u8 0, .nilsl], .int .i64 8]) [] [])) (((0 ≤ i) ∧ (i ≤ 1)) ∧ ((i = 0) → ((0 : Int) ≤ (0 : Int)) ∧ ((0 : Int) < (↑(2 : Nat) : Int)) ∧ (k (.tup [.agg [.int .i64 g0_6, .int .u8 m0_7, .sl 10 p0_8], .int .i64 0]) [] [])) ∧ ((i = 1) → ((0 : Int) ≤ (1 : Int)) ∧ ((1 : Int) < (↑(2 : Nat) : Int)) ∧ (k (.tup [.agg [.int .i64 g1_11, .int .u8 m1_12, .sl 10 p1_13], .int .i64 0]) [] [])))))) := by
 refine ⟨?_, ?_⟩
 ·
  intro e_1 h1 h2 ⟨a3, b3⟩
  refine br_intro (fun c4 => ?_) (fun c4 => ?_)
  ·
   simp at c4
   exact hk.1 _ h1 h2
  simp at c4
  exfalso; omega
 intro h5 h0_5 g0_6 m0_7 p0_8 b0_9 h1_10 g1_11 m1_12 p1_13 b1_14 h6 h7 h8 ⟨a9, b9⟩
 refine br_intro (fun c10 => ?_) (fun c10 => ?_)
 ·
  simp at c10
  exact hk.2.1 h5 (by omega)
 simp at c10
 refine ⟨by first | omega | (dsimp only; omega), ?_⟩
 refine ⟨?_, ?_⟩
 ·
  intro h11
  refine ⟨by first | omega | (dsimp only; omega), by first | omega | (dsimp only; omega), ?_⟩
  refine br_intro (fun c12 => ?_) (fun c12 => ?_)
  ·
   simp at c12
   exact hk.2.2.1 h5 (.inl h11) (h6.a.no c12 h11)
  simp at c12
  refine ⟨by first | omega | (dsimp only; omega), ?_⟩
  refine ⟨?_, ?_⟩
  ·
   intro h13
   refine ⟨by first | omega | (dsimp only; omega), by first | omega | (dsimp only; omega), ?_⟩
   exact hk.2.2.2 h5 (.inl h13) _ _ _ (h6.a.yes c12 h13)
  intro h14
  refine ⟨by first | omega | (dsimp only; omega), by first | omega | (dsimp only; omega), ?_⟩
  exfalso; omega
 intro h15
 refine ⟨by first | omega | (dsimp only; omega), by first | omega | (dsimp only; omega), ?_⟩
 refine br_intro (fun c16 => ?_) (fun c16 => ?_)
 ·
  simp at c16
  exact hk.2.2.1 h5 (.inr h15) (h6.b.no c16 h15)
 simp at c16
 refine ⟨by first | omega | (dsimp only; omega), ?_⟩
 refine ⟨?_, ?_⟩
 ·
  intro h17
  refine ⟨by first | omega | (dsimp only; omega), by first | omega | (dsimp only; omega), ?_⟩
  exfalso; omega
 intro h18
 refine ⟨by first | omega | (dsimp only; omega), by first | omega | (dsimp only; omega), ?_⟩
 exact hk.2.2.2 h5 (.inr h18) _ _ _ (h6.b.yes c16 h18)
theorem zSlot_ok : Holds Try.prog 21 rSlotS := by
  refine fn_sound (env := { mkEnv G1 with mode := md [(7000, 2), (9000, 2)] }) (tab_ok G1_ok) Try.func21 Try.call21 fun args k h => ?_
  match args, h with
  | [.agg [.sl 0 d], .int .i64 i], h => exact ⟨by kernel_rfl, fun _ _ => none, fun _ _ => none, .cast (by kernel_rfl) (zSlot_vc d i k h)⟩
set_option maxHeartbeats 2000000 in
theorem zRead_vc (d : List UInt8) (k : AV → List (Option Blk) → List Blk → Prop) (hk : (∀ (e : Int), e = askD d → e ≠ (0 : Int) → k (.tup [.agg [.int .i64 0, .int .u8 0, .nilsl], .int .i64 e]) [] []) ∧ (D2 d → Cd d (-1 : Int) (0 : Int) (0 : Int) [] → k (.tup [.agg [.int .i64 0, .int .u8 0, .nilsl], .int .i64 190]) [] []) ∧ (D2 d → ∀ (c g m : Int) (ps : List Plan), Cd d c g m ps → c = 0 ∨ c = 1 → k (.tup [.agg [.int .i64 g, .int .u8 m, .sl 10 ps], .int .i64 0]) [] [])) : (∀ (e_1 : Int), (e_1 = askD d) → (e_1 ≠ (0 : Int)) → (0 ≤ e_1 ∧ e_1 ≤ 190) → br (e_1 != 0) ((k (.tup [.agg [.int .i64 0, .int .u8 0, .nilsl], .int .i64 e_1]) [] [])) ((False))) ∧ ((D2 d) → ∀ (h0_5 : Bool), ∀ (g0_6 : Int), ∀ (m0_7 : Int), ∀ (p0_8 : List Plan), ∀ (b0_9 : List (List UInt8)), ∀ (h1_10 : Bool), ∀ (g1_11 : Int), ∀ (m1_12 : Int), ∀ (p1_13 : List Plan), ∀ (b1_14 : List (List UInt8)), (Sl2 d h0_5 g0_6 m0_7 p0_8 b0_9 h1_10 g1_11 m1_12 p1_13 b1_14) → ((0 ≤ g0_6 ∧ g0_6 ≤ 4611686018427387903) ∧ 0 ≤ m0_7 ∧ m0_7 ≤ 3) → ((0 ≤ g1_11 ∧ g1_11 ≤ 4611686018427387903) ∧ 0 ≤ m1_12 ∧ m1_12 ≤ 3) → (b0_9.length = half d ∧ b1_14.length = half d) → ∀ (c_19 : Int), (c_19 = cnt h0_5 g0_6 h1_10 g1_11) → (-1 ≤ c_19 ∧ c_19 ≤ 1) → br (decide (c_19 < 0)) ((k (.tup [.agg [.int .i64 0, .int .u8 0, .nilsl], .int .i64 190]) [] [])) (((0 ≤ c_19) ∧ (c_19 ≤ 1)) ∧ ((c_19 = 0) → ((0 : Int) ≤ (0 : Int)) ∧ ((0 : Int) < (↑(2 : Nat) : Int)) ∧ (k (.tup [.agg [.int .i64 g0_6, .int .u8 m0_7, .sl 10 p0_8], .int .i64 0]) [] [])) ∧ ((c_19 = 1) → ((0 : Int) ≤ (1 : Int)) ∧ ((1 : Int) < (↑(2 : Nat) : Int)) ∧ (k (.tup [.agg [.int .i64 g1_11, .int .u8 m1_12, .sl 10 p1_13], .int .i64 0]) [] [])))) := by
 refine ⟨?_, ?_⟩
 ·
  intro e_1 h1 h2 ⟨a3, b3⟩
  refine br_intro (fun c4 => ?_) (fun c4 => ?_)
  ·
   simp at c4
   exact hk.1 _ h1 h2
  simp at c4
  exfalso; omega
 intro h5 h0_5 g0_6 m0_7 p0_8 b0_9 h1_10 g1_11 m1_12 p1_13 b1_14 h6 h7 h8 ⟨a9, b9⟩ c_19 h10 ⟨a11, b11⟩
 refine brd (fun c12 => ?_) (fun c12 => ?_)
 ·
  exact hk.2.1 h5 (h6.cd2 h10 (by omega))
 refine ⟨by first | omega | (dsimp only; omega), ?_⟩
 refine ⟨?_, ?_⟩
 ·
  intro h13
  refine ⟨by first | omega | (dsimp only; omega), by first | omega | (dsimp only; omega), ?_⟩
  exact hk.2.2 h5 _ _ _ _ (h6.cd0 h10 h13) (.inl rfl)
 intro h14
 refine ⟨by first | omega | (dsimp only; omega), by first | omega | (dsimp only; omega), ?_⟩
 exact hk.2.2 h5 _ _ _ _ (h6.cd1 h10 h14) (.inr rfl)
theorem zRead_ok : Holds Try.prog 17 rReadS := by
  refine fn_sound (env := { mkEnv G1 with mode := md [(8000, 2)] }) (tab_ok G1_ok) Try.func17 Try.call17 fun args k h => ?_
  match args, h with
  | [.agg [.sl 0 d]], h => exact ⟨by kernel_rfl, fun _ _ => none, fun _ _ => none, .cast (by kernel_rfl) (zRead_vc d k h)⟩
theorem G1Y_ok (yb : Nat) : TabOkN yb Try.prog (G1Y yb) := ⟨slots_ok.n yb, counts_ok.n yb, nextz_ok.n yb, blocksZ_up (blocksY_ok yb), trivial⟩
set_option maxHeartbeats 2000000 in
theorem putz_vc (yb : Nat) (d : List UInt8) (m : Int) (l : List Plan) (hm : 0 ≤ m ∧ m ≤ 255) (k : AV → List (Option Blk) → List Blk → Prop) (hk : (∀ (e : Int), PtR d m l e [] → e ≠ (0 : Int) → k (.tup [.nilsl, .int .i64 e]) [] []) ∧ ∀ (ys : List YPut) (n : Nat), PtR d m l (0 : Int) (List.map YPut.old ys) → YPs yb ys → ys.length = n → k (.tup [.row 13 0 0 n, .int .i64 0]) [] [.row 13 ys]) : (∀ (e_1 : Int), (e_1 = askD d) → (e_1 ≠ (0 : Int)) → (0 ≤ e_1 ∧ e_1 ≤ 190) → br (e_1 != 0) ((k (.tup [.nilsl, .int .i64 e_1]) [] [])) (br (decide (m > 3)) ((k (.tup [.nilsl, .int .i64 2]) [] [])) (((0 : Int) ≤ (0 : Int)) ∧ ((0 : Int) < (↑(2 : Nat) : Int)) ∧ (False)))) ∧ ((D2 d) → ∀ (h0_5 : Bool), ∀ (g0_6 : Int), ∀ (m0_7 : Int), ∀ (p0_8 : List Plan), ∀ (b0_9 : List (List UInt8)), ∀ (h1_10 : Bool), ∀ (g1_11 : Int), ∀ (m1_12 : Int), ∀ (p1_13 : List Plan), ∀ (b1_14 : List (List UInt8)), (Sl2 d h0_5 g0_6 m0_7 p0_8 b0_9 h1_10 g1_11 m1_12 p1_13 b1_14) → ((0 ≤ g0_6 ∧ g0_6 ≤ 4611686018427387903) ∧ 0 ≤ m0_7 ∧ m0_7 ≤ 3) → ((0 ≤ g1_11 ∧ g1_11 ≤ 4611686018427387903) ∧ 0 ≤ m1_12 ∧ m1_12 ≤ 3) → (b0_9.length = half d ∧ b1_14.length = half d) → br (decide (m > 3)) ((k (.tup [.nilsl, .int .i64 2]) [] [])) (((0 : Int) ≤ (0 : Int)) ∧ ((0 : Int) < (↑(2 : Nat) : Int)) ∧ ∀ (n19 : Int), (n19 = (↑b0_9.length : Int)) → (inK .i64 n19) → ((((-9223372036854775808 : Int) ≤ (1 : Int)) ∧ ((1 : Int) ≤ (9223372036854775807 : Int))) ∧ (0 ≤ m) ∧ (m ≤ 255)) ∧ ∀ (e_22 : Int), ∀ (us_23 : List YB), (e_22 = blkE (1 : Int) m l n19) → (List.map YB.data us_23 = blkO (1 : Int) m l n19) → (YAll yb us_23) → (0 ≤ e_22 ∧ e_22 ≤ 190) → ((e_22 = 0) → (us_23.length = n19.toNat)) → br (e_22 != 0) ((k (.tup [.nilsl, .int .i64 e_22]) [] [])) (∀ (c_29 : Int), (c_29 = cnt h0_5 g0_6 h1_10 g1_11) → (-1 ≤ c_29 ∧ c_29 ≤ 1) → br (c_29 == 0) (br (decide (c_29 ≥ 0)) (((0 ≤ c_29) ∧ (c_29 ≤ 1)) ∧ ((c_29 = 0) → ((0 : Int) ≤ (0 : Int)) ∧ ((0 : Int) < (↑(2 : Nat) : Int)) ∧ ∀ (n33 : Int), (n33 = g0_6) → (inK .i64 n33) → (((0 : Int) ≤ (1 : Int)) ∧ ((1 : Int) < (↑(2 : Nat) : Int)) ∧ ((B64 b1_14) ∧ (0 ≤ n33) ∧ (n33 ≤ 4611686018427387903)) ∧ ∀ (r_36 : Int), (Nx n33 b1_14 r_36) → (1 ≤ r_36 ∧ r_36 ≤ 4611686018427387936) → ∃ (v : Int × Int), (n19 = (↑(half d) : Int)) ∧ (1 = v.snd) ∧ (r_36 = v.fst) ∧ (m = m) ∧ (l = l) ∧ ((1 ≤ half d) ∧ (half d ≤ 32)) ∧ ((0 ≤ m) ∧ (m ≤ 3)) ∧ ((1 ≤ v.fst) ∧ (v.fst ≤ 4611686018427387936)) ∧ ((0 ≤ v.snd) ∧ (v.snd ≤ 1)) ∧ (PQ d m l v.fst v.snd)) ∧ ∀ (v_39 : Int × Int), ((1 ≤ half d ∧ half d ≤ 32) ∧ (0 ≤ m ∧ m ≤ 3) ∧ (1 ≤ v_39.fst ∧ v_39.fst ≤ 4611686018427387936) ∧ (0 ≤ v_39.snd ∧ v_39.snd ≤ 1) ∧ PQ d m l v_39.fst v_39.snd) → ∀ (n41 : Int), (n41 = v_39.fst) → (inK .i64 n41) → br (decide (n41 ≥ 4611686018427387904)) ((k (.tup [.nilsl, .int .i64 190]) [] [])) ((((-9223372036854775808 ≤ v_39.fst) ∧ (v_39.fst ≤ 9223372036854775807)) ∧ (0 ≤ m) ∧ (m ≤ 255)) ∧ ∀ (e_44 : Int), ∀ (us_45 : List YB), (e_44 = blkE v_39.fst m l (↑(half d) : Int)) → (List.map YB.data us_45 = blkO v_39.fst m l (↑(half d) : Int)) → (YAll yb us_45) → (0 ≤ e_44 ∧ e_44 ≤ 190) → ((e_44 = 0) → (us_45.length = (↑(half d) : Int).toNat)) → ∀ (n51 : Int), (n51 = (↑us_45.length : Int)) → (inK .i64 n51) → (∃ (v : Nat × List YPut × List YB × Int), (e_44 = 0) ∧ ((↑(half d) : Int) = (↑(half d) : Int)) ∧ (v_39.snd = v.snd.snd.snd) ∧ (0 = 0) ∧ (0 = v.fst) ∧ (us_45 = v.snd.snd.fst) ∧ (n51 = (↑v.snd.snd.fst.length : Int)) ∧ ((0 : Int) = (↑v.fst : Int)) ∧ ([] = v.snd.fst) ∧ (v.fst ≤ half d) ∧ ((1 ≤ half d) ∧ (half d ≤ 32)) ∧ (v.snd.snd.fst.length = half d) ∧ ((0 ≤ v.snd.snd.snd) ∧ (v.snd.snd.snd ≤ 1)) ∧ ((0 ≤ slo d v.snd.snd.snd) ∧ (slo d v.snd.snd.snd ≤ 32)) ∧ (v.snd.fst.length = v.fst) ∧ (BQ d m l v.snd.snd.snd (List.map YB.data v.snd.snd.fst)) ∧ (PuI (slo d v.snd.snd.snd) (List.map YB.data v.snd.snd.fst) v.fst (List.map YPut.old v.snd.fst)) ∧ (YPs yb v.snd.fst) ∧ (YAll yb v.snd.snd.fst)) ∧ ∀ (v_54 : Nat × List YPut × List YB × Int), (v_54.fst ≤ half d ∧ (1 ≤ half d ∧ half d ≤ 32) ∧ v_54.snd.snd.fst.length = half d ∧ (0 ≤ v_54.snd.snd.snd ∧ v_54.snd.snd.snd ≤ 1) ∧ (0 ≤ slo d v_54.snd.snd.snd ∧ slo d v_54.snd.snd.snd ≤ 32) ∧ v_54.snd.fst.length = v_54.fst ∧ BQ d m l v_54.snd.snd.snd (List.map YB.data v_54.snd.snd.fst) ∧ PuI (slo d v_54.snd.snd.snd) (List.map YB.data v_54.snd.snd.fst) v_54.fst (List.map YPut.old v_54.snd.fst) ∧ YPs yb v_54.snd.fst ∧ YAll yb v_54.snd.snd.fst) → br (decide ((↑v_54.fst : Int) < (↑v_54.snd.snd.fst.length : Int))) (((0 : Int) ≤ (↑v_54.fst : Int)) ∧ ((↑v_54.fst : Int) < (↑v_54.snd.snd.fst.length : Int)) ∧ ∀ (n56 : Int), (n56 = IntKind.i64.wrap (v_54.snd.snd.snd * (↑(half d) : Int))) → (inK .i64 n56) → ∀ (n59 : Int), (n59 = IntKind.i64.wrap (n56 + (↑v_54.fst : Int))) → (inK .i64 n59) → ((v_54.fst + 1) * 32 ≤ 140737488355328) ∧ ∀ (z62 : List YPut), (z62 = List.take v_54.fst v_54.snd.fst ++ List.take 1 (List.drop 0 [{ nb := (v_54.snd.snd.fst.getD (↑v_54.fst : Int).toNat (dflt 14)).nb, n := n59, data := (v_54.snd.snd.fst.getD (↑v_54.fst : Int).toNat (dflt 14)).data : YPut }])) → ∀ (n64 : Int), (n64 = IntKind.i64.wrap ((↑v_54.fst : Int) + (1 : Int))) → (inK .i64 n64) → ∃ (v' : Nat × List YPut × List YB × Int), ((0 : Int) = (0 : Int)) ∧ ((↑(half d) : Int) = (↑(half d) : Int)) ∧ (v_54.snd.snd.snd = v'.snd.snd.snd) ∧ (0 = 0) ∧ (v_54.fst + 1 = v'.fst) ∧ (v_54.snd.snd.fst = v'.snd.snd.fst) ∧ ((↑v_54.snd.snd.fst.length : Int) = (↑v'.snd.snd.fst.length : Int)) ∧ (n64 = (↑v'.fst : Int)) ∧ (z62 = v'.snd.fst) ∧ ((v'.fst ≤ half d) ∧ ((1 ≤ half d) ∧ (half d ≤ 32)) ∧ (v'.snd.snd.fst.length = half d) ∧ ((0 ≤ v'.snd.snd.snd) ∧ (v'.snd.snd.snd ≤ (1 : Int))) ∧ ((0 ≤ slo d v'.snd.snd.snd) ∧ (slo d v'.snd.snd.snd ≤ (32 : Int))) ∧ (v'.snd.fst.length = v'.fst) ∧ (BQ d m l v'.snd.snd.snd (List.map YB.data v'.snd.snd.fst)) ∧ (PuI (slo d v'.snd.snd.snd) (List.map YB.data v'.snd.snd.fst) v'.fst (List.map YPut.old v'.snd.fst)) ∧ (YPs yb v'.snd.fst) ∧ (YAll yb v'.snd.snd.fst)) ∧ (half d - v'.fst < half d - v_54.fst)) ((k (.tup [.row 13 0 0 v_54.fst, .int .i64 0]) [] [.row 13 v_54.snd.fst])))) ∧ ((c_29 = 1) → ((0 : Int) ≤ (1 : Int)) ∧ ((1 : Int) < (↑(2 : Nat) : Int)) ∧ ∀ (n68 : Int), (n68 = g1_11) → (inK .i64 n68) → (((0 : Int) ≤ (1 : Int)) ∧ ((1 : Int) < (↑(2 : Nat) : Int)) ∧ ((B64 b1_14) ∧ (0 ≤ n68) ∧ (n68 ≤ 4611686018427387903)) ∧ ∀ (r_71 : Int), (Nx n68 b1_14 r_71) → (1 ≤ r_71 ∧ r_71 ≤ 4611686018427387936) → ∃ (v : Int × Int), (n19 = (↑(half d) : Int)) ∧ (1 = v.snd) ∧ (r_71 = v.fst) ∧ (m = m) ∧ (l = l) ∧ ((1 ≤ half d) ∧ (half d ≤ 32)) ∧ ((0 ≤ m) ∧ (m ≤ 3)) ∧ ((1 ≤ v.fst) ∧ (v.fst ≤ 4611686018427387936)) ∧ ((0 ≤ v.snd) ∧ (v.snd ≤ 1)) ∧ (PQ d m l v.fst v.snd)) ∧ ∀ (v_74 : Int × Int), ((1 ≤ half d ∧ half d ≤ 32) ∧ (0 ≤ m ∧ m ≤ 3) ∧ (1 ≤ v_74.fst ∧ v_74.fst ≤ 4611686018427387936) ∧ (0 ≤ v_74.snd ∧ v_74.snd ≤ 1) ∧ PQ d m l v_74.fst v_74.snd) → ∀ (n76 : Int), (n76 = v_74.fst) → (inK .i64 n76) → br (decide (n76 ≥ 4611686018427387904)) ((k (.tup [.nilsl, .int .i64 190]) [] [])) ((((-9223372036854775808 ≤ v_74.fst) ∧ (v_74.fst ≤ 9223372036854775807)) ∧ (0 ≤ m) ∧ (m ≤ 255)) ∧ ∀ (e_79 : Int), ∀ (us_80 : List YB), (e_79 = blkE v_74.fst m l (↑(half d) : Int)) → (List.map YB.data us_80 = blkO v_74.fst m l (↑(half d) : Int)) → (YAll yb us_80) → (0 ≤ e_79 ∧ e_79 ≤ 190) → ((e_79 = 0) → (us_80.length = (↑(half d) : Int).toNat)) → ∀ (n86 : Int), (n86 = (↑us_80.length : Int)) → (inK .i64 n86) → (∃ (v : Nat × List YPut × List YB × Int), (e_79 = 0) ∧ ((↑(half d) : Int) = (↑(half d) : Int)) ∧ (v_74.snd = v.snd.snd.snd) ∧ (0 = 0) ∧ (0 = v.fst) ∧ (us_80 = v.snd.snd.fst) ∧ (n86 = (↑v.snd.snd.fst.length : Int)) ∧ ((0 : Int) = (↑v.fst : Int)) ∧ ([] = v.snd.fst) ∧ (v.fst ≤ half d) ∧ ((1 ≤ half d) ∧ (half d ≤ 32)) ∧ (v.snd.snd.fst.length = half d) ∧ ((0 ≤ v.snd.snd.snd) ∧ (v.snd.snd.snd ≤ 1)) ∧ ((0 ≤ slo d v.snd.snd.snd) ∧ (slo d v.snd.snd.snd ≤ 32)) ∧ (v.snd.fst.length = v.fst) ∧ (BQ d m l v.snd.snd.snd (List.map YB.data v.snd.snd.fst)) ∧ (PuI (slo d v.snd.snd.snd) (List.map YB.data v.snd.snd.fst) v.fst (List.map YPut.old v.snd.fst)) ∧ (YPs yb v.snd.fst) ∧ (YAll yb v.snd.snd.fst)) ∧ ∀ (v_89 : Nat × List YPut × List YB × Int), (v_89.fst ≤ half d ∧ (1 ≤ half d ∧ half d ≤ 32) ∧ v_89.snd.snd.fst.length = half d ∧ (0 ≤ v_89.snd.snd.snd ∧ v_89.snd.snd.snd ≤ 1) ∧ (0 ≤ slo d v_89.snd.snd.snd ∧ slo d v_89.snd.snd.snd ≤ 32) ∧ v_89.snd.fst.length = v_89.fst ∧ BQ d m l v_89.snd.snd.snd (List.map YB.data v_89.snd.snd.fst) ∧ PuI (slo d v_89.snd.snd.snd) (List.map YB.data v_89.snd.snd.fst) v_89.fst (List.map YPut.old v_89.snd.fst) ∧ YPs yb v_89.snd.fst ∧ YAll yb v_89.snd.snd.fst) → br (decide ((↑v_89.fst : Int) < (↑v_89.snd.snd.fst.length : Int))) (((0 : Int) ≤ (↑v_89.fst : Int)) ∧ ((↑v_89.fst : Int) < (↑v_89.snd.snd.fst.length : Int)) ∧ ∀ (n91 : Int), (n91 = IntKind.i64.wrap (v_89.snd.snd.snd * (↑(half d) : Int))) → (inK .i64 n91) → ∀ (n94 : Int), (n94 = IntKind.i64.wrap (n91 + (↑v_89.fst : Int))) → (inK .i64 n94) → ((v_89.fst + 1) * 32 ≤ 140737488355328) ∧ ∀ (z97 : List YPut), (z97 = List.take v_89.fst v_89.snd.fst ++ List.take 1 (List.drop 0 [{ nb := (v_89.snd.snd.fst.getD (↑v_89.fst : Int).toNat (dflt 14)).nb, n := n94, data := (v_89.snd.snd.fst.getD (↑v_89.fst : Int).toNat (dflt 14)).data : YPut }])) → ∀ (n99 : Int), (n99 = IntKind.i64.wrap ((↑v_89.fst : Int) + (1 : Int))) → (inK .i64 n99) → ∃ (v' : Nat × List YPut × List YB × Int), ((0 : Int) = (0 : Int)) ∧ ((↑(half d) : Int) = (↑(half d) : Int)) ∧ (v_89.snd.snd.snd = v'.snd.snd.snd) ∧ (0 = 0) ∧ (v_89.fst + 1 = v'.fst) ∧ (v_89.snd.snd.fst = v'.snd.snd.fst) ∧ ((↑v_89.snd.snd.fst.length : Int) = (↑v'.snd.snd.fst.length : Int)) ∧ (n99 = (↑v'.fst : Int)) ∧ (z97 = v'.snd.fst) ∧ ((v'.fst ≤ half d) ∧ ((1 ≤ half d) ∧ (half d ≤ 32)) ∧ (v'.snd.snd.fst.length = half d) ∧ ((0 ≤ v'.snd.snd.snd) ∧ (v'.snd.snd.snd ≤ (1 : Int))) ∧ ((0 ≤ slo d v'.snd.snd.snd) ∧ (slo d v'.snd.snd.snd ≤ (32 : Int))) ∧ (v'.snd.fst.length = v'.fst) ∧ (BQ d m l v'.snd.snd.snd (List.map YB.data v'.snd.snd.fst)) ∧ (PuI (slo d v'.snd.snd.snd) (List.map YB.data v'.snd.snd.fst) v'.fst (List.map YPut.old v'.snd.fst)) ∧ (YPs yb v'.snd.fst) ∧ (YAll yb v'.snd.snd.fst)) ∧ (half d - v'.fst < half d - v_89.fst)) ((k (.tup [.row 13 0 0 v_89.fst, .int .i64 0]) [] [.row 13 v_89.snd.fst]))))) ((((0 : Int) ≤ (1 : Int)) ∧ ((1 : Int) < (↑(2 : Nat) : Int)) ∧ ((B64 b1_14) ∧ ((0 : Int) ≤ (0 : Int)) ∧ ((0 : Int) ≤ (4611686018427387903 : Int))) ∧ ∀ (r_102 : Int), (Nx (0 : Int) b1_14 r_102) → (1 ≤ r_102 ∧ r_102 ≤ 4611686018427387936) → ∃ (v : Int × Int), (n19 = (↑(half d) : Int)) ∧ (1 = v.snd) ∧ (r_102 = v.fst) ∧ (m = m) ∧ (l = l) ∧ ((1 ≤ half d) ∧ (half d ≤ 32)) ∧ ((0 ≤ m) ∧ (m ≤ 3)) ∧ ((1 ≤ v.fst) ∧ (v.fst ≤ 4611686018427387936)) ∧ ((0 ≤ v.snd) ∧ (v.snd ≤ 1)) ∧ (PQ d m l v.fst v.snd)) ∧ ∀ (v_105 : Int × Int), ((1 ≤ half d ∧ half d ≤ 32) ∧ (0 ≤ m ∧ m ≤ 3) ∧ (1 ≤ v_105.fst ∧ v_105.fst ≤ 4611686018427387936) ∧ (0 ≤ v_105.snd ∧ v_105.snd ≤ 1) ∧ PQ d m l v_105.fst v_105.snd) → ∀ (n107 : Int), (n107 = v_105.fst) → (inK .i64 n107) → br (decide (n107 ≥ 4611686018427387904)) ((k (.tup [.nilsl, .int .i64 190]) [] [])) ((((-9223372036854775808 ≤ v_105.fst) ∧ (v_105.fst ≤ 9223372036854775807)) ∧ (0 ≤ m) ∧ (m ≤ 255)) ∧ ∀ (e_110 : Int), ∀ (us_111 : List YB), (e_110 = blkE v_105.fst m l (↑(half d) : Int)) → (List.map YB.data us_111 = blkO v_105.fst m l (↑(half d) : Int)) → (YAll yb us_111) → (0 ≤ e_110 ∧ e_110 ≤ 190) → ((e_110 = 0) → (us_111.length = (↑(half d) : Int).toNat)) → ∀ (n117 : Int), (n117 = (↑us_111.length : Int)) → (inK .i64 n117) → (∃ (v : Nat × List YPut × List YB × Int), (e_110 = 0) ∧ ((↑(half d) : Int) = (↑(half d) : Int)) ∧ (v_105.snd = v.snd.snd.snd) ∧ (0 = 0) ∧ (0 = v.fst) ∧ (us_111 = v.snd.snd.fst) ∧ (n117 = (↑v.snd.snd.fst.length : Int)) ∧ ((0 : Int) = (↑v.fst : Int)) ∧ ([] = v.snd.fst) ∧ (v.fst ≤ half d) ∧ ((1 ≤ half d) ∧ (half d ≤ 32)) ∧ (v.snd.snd.fst.length = half d) ∧ ((0 ≤ v.snd.snd.snd) ∧ (v.snd.snd.snd ≤ 1)) ∧ ((0 ≤ slo d v.snd.snd.snd) ∧ (slo d v.snd.snd.snd ≤ 32)) ∧ (v.snd.fst.length = v.fst) ∧ (BQ d m l v.snd.snd.snd (List.map YB.data v.snd.snd.fst)) ∧ (PuI (slo d v.snd.snd.snd) (List.map YB.data v.snd.snd.fst) v.fst (List.map YPut.old v.snd.fst)) ∧ (YPs yb v.snd.fst) ∧ (YAll yb v.snd.snd.fst)) ∧ ∀ (v_120 : Nat × List YPut × List YB × Int), (v_120.fst ≤ half d ∧ (1 ≤ half d ∧ half d ≤ 32) ∧ v_120.snd.snd.fst.length = half d ∧ (0 ≤ v_120.snd.snd.snd ∧ v_120.snd.snd.snd ≤ 1) ∧ (0 ≤ slo d v_120.snd.snd.snd ∧ slo d v_120.snd.snd.snd ≤ 32) ∧ v_120.snd.fst.length = v_120.fst ∧ BQ d m l v_120.snd.snd.snd (List.map YB.data v_120.snd.snd.fst) ∧ PuI (slo d v_120.snd.snd.snd) (List.map YB.data v_120.snd.snd.fst) v_120.fst (List.map YPut.old v_120.snd.fst) ∧ YPs yb v_120.snd.fst ∧ YAll yb v_120.snd.snd.fst) → br (decide ((↑v_120.fst : Int) < (↑v_120.snd.snd.fst.length : Int))) (((0 : Int) ≤ (↑v_120.fst : Int)) ∧ ((↑v_120.fst : Int) < (↑v_120.snd.snd.fst.length : Int)) ∧ ∀ (n122 : Int), (n122 = IntKind.i64.wrap (v_120.snd.snd.snd * (↑(half d) : Int))) → (inK .i64 n122) → ∀ (n125 : Int), (n125 = IntKind.i64.wrap (n122 + (↑v_120.fst : Int))) → (inK .i64 n125) → ((v_120.fst + 1) * 32 ≤ 140737488355328) ∧ ∀ (z128 : List YPut), (z128 = List.take v_120.fst v_120.snd.fst ++ List.take 1 (List.drop 0 [{ nb := (v_120.snd.snd.fst.getD (↑v_120.fst : Int).toNat (dflt 14)).nb, n := n125, data := (v_120.snd.snd.fst.getD (↑v_120.fst : Int).toNat (dflt 14)).data : YPut }])) → ∀ (n130 : Int), (n130 = IntKind.i64.wrap ((↑v_120.fst : Int) + (1 : Int))) → (inK .i64 n130) → ∃ (v' : Nat × List YPut × List YB × Int), ((0 : Int) = (0 : Int)) ∧ ((↑(half d) : Int) = (↑(half d) : Int)) ∧ (v_120.snd.snd.snd = v'.snd.snd.snd) ∧ (0 = 0) ∧ (v_120.fst + 1 = v'.fst) ∧ (v_120.snd.snd.fst = v'.snd.snd.fst) ∧ ((↑v_120.snd.snd.fst.length : Int) = (↑v'.snd.snd.fst.length : Int)) ∧ (n130 = (↑v'.fst : Int)) ∧ (z128 = v'.snd.fst) ∧ ((v'.fst ≤ half d) ∧ ((1 ≤ half d) ∧ (half d ≤ 32)) ∧ (v'.snd.snd.fst.length = half d) ∧ ((0 ≤ v'.snd.snd.snd) ∧ (v'.snd.snd.snd ≤ (1 : Int))) ∧ ((0 ≤ slo d v'.snd.snd.snd) ∧ (slo d v'.snd.snd.snd ≤ (32 : Int))) ∧ (v'.snd.fst.length = v'.fst) ∧ (BQ d m l v'.snd.snd.snd (List.map YB.data v'.snd.snd.fst)) ∧ (PuI (slo d v'.snd.snd.snd) (List.map YB.data v'.snd.snd.fst) v'.fst (List.map YPut.old v'.snd.fst)) ∧ (YPs yb v'.snd.fst) ∧ (YAll yb v'.snd.snd.fst)) ∧ (half d - v'.fst < half d - v_120.fst)) ((k (.tup [.row 13 0 0 v_120.fst, .int .i64 0]) [] [.row 13 v_120.snd.fst]))))) (br (decide (c_29 ≥ 0)) (((0 ≤ c_29) ∧ (c_29 ≤ 1)) ∧ ((c_29 = 0) → ((0 : Int) ≤ (0 : Int)) ∧ ((0 : Int) < (↑(2 : Nat) : Int)) ∧ ∀ (n134 : Int), (n134 = g0_6) → (inK .i64 n134) → (((0 : Int) ≤ (0 : Int)) ∧ ((0 : Int) < (↑(2 : Nat) : Int)) ∧ ((B64 b0_9) ∧ (0 ≤ n134) ∧ (n134 ≤ 4611686018427387903)) ∧ ∀ (r_137 : Int), (Nx n134 b0_9 r_137) → (1 ≤ r_137 ∧ r_137 ≤ 4611686018427387936) → ∃ (v : Int × Int), (n19 = (↑(half d) : Int)) ∧ (0 = v.snd) ∧ (r_137 = v.fst) ∧ (m = m) ∧ (l = l) ∧ ((1 ≤ half d) ∧ (half d ≤ 32)) ∧ ((0 ≤ m) ∧ (m ≤ 3)) ∧ ((1 ≤ v.fst) ∧ (v.fst ≤ 4611686018427387936)) ∧ ((0 ≤ v.snd) ∧ (v.snd ≤ 1)) ∧ (PQ d m l v.fst v.snd)) ∧ ∀ (v_140 : Int × Int), ((1 ≤ half d ∧ half d ≤ 32) ∧ (0 ≤ m ∧ m ≤ 3) ∧ (1 ≤ v_140.fst ∧ v_140.fst ≤ 4611686018427387936) ∧ (0 ≤ v_140.snd ∧ v_140.snd ≤ 1) ∧ PQ d m l v_140.fst v_140.snd) → ∀ (n142 : Int), (n142 = v_140.fst) → (inK .i64 n142) → br (decide (n142 ≥ 4611686018427387904)) ((k (.tup [.nilsl, .int .i64 190]) [] [])) ((((-9223372036854775808 ≤ v_140.fst) ∧ (v_140.fst ≤ 9223372036854775807)) ∧ (0 ≤ m) ∧ (m ≤ 255)) ∧ ∀ (e_145 : Int), ∀ (us_146 : List YB), (e_145 = blkE v_140.fst m l (↑(half d) : Int)) → (List.map YB.data us_146 = blkO v_140.fst m l (↑(half d) : Int)) → (YAll yb us_146) → (0 ≤ e_145 ∧ e_145 ≤ 190) → ((e_145 = 0) → (us_146.length = (↑(half d) : Int).toNat)) → ∀ (n152 : Int), (n152 = (↑us_146.length : Int)) → (inK .i64 n152) → (∃ (v : Nat × List YPut × List YB × Int), (e_145 = 0) ∧ ((↑(half d) : Int) = (↑(half d) : Int)) ∧ (v_140.snd = v.snd.snd.snd) ∧ (0 = 0) ∧ (0 = v.fst) ∧ (us_146 = v.snd.snd.fst) ∧ (n152 = (↑v.snd.snd.fst.length : Int)) ∧ ((0 : Int) = (↑v.fst : Int)) ∧ ([] = v.snd.fst) ∧ (v.fst ≤ half d) ∧ ((1 ≤ half d) ∧ (half d ≤ 32)) ∧ (v.snd.snd.fst.length = half d) ∧ ((0 ≤ v.snd.snd.snd) ∧ (v.snd.snd.snd ≤ 1)) ∧ ((0 ≤ slo d v.snd.snd.snd) ∧ (slo d v.snd.snd.snd ≤ 32)) ∧ (v.snd.fst.length = v.fst) ∧ (BQ d m l v.snd.snd.snd (List.map YB.data v.snd.snd.fst)) ∧ (PuI (slo d v.snd.snd.snd) (List.map YB.data v.snd.snd.fst) v.fst (List.map YPut.old v.snd.fst)) ∧ (YPs yb v.snd.fst) ∧ (YAll yb v.snd.snd.fst)) ∧ ∀ (v_155 : Nat × List YPut × List YB × Int), (v_155.fst ≤ half d ∧ (1 ≤ half d ∧ half d ≤ 32) ∧ v_155.snd.snd.fst.length = half d ∧ (0 ≤ v_155.snd.snd.snd ∧ v_155.snd.snd.snd ≤ 1) ∧ (0 ≤ slo d v_155.snd.snd.snd ∧ slo d v_155.snd.snd.snd ≤ 32) ∧ v_155.snd.fst.length = v_155.fst ∧ BQ d m l v_155.snd.snd.snd (List.map YB.data v_155.snd.snd.fst) ∧ PuI (slo d v_155.snd.snd.snd) (List.map YB.data v_155.snd.snd.fst) v_155.fst (List.map YPut.old v_155.snd.fst) ∧ YPs yb v_155.snd.fst ∧ YAll yb v_155.snd.snd.fst) → br (decide ((↑v_155.fst : Int) < (↑v_155.snd.snd.fst.length : Int))) (((0 : Int) ≤ (↑v_155.fst : Int)) ∧ ((↑v_155.fst : Int) < (↑v_155.snd.snd.fst.length : Int)) ∧ ∀ (n157 : Int), (n157 = IntKind.i64.wrap (v_155.snd.snd.snd * (↑(half d) : Int))) → (inK .i64 n157) → ∀ (n160 : Int), (n160 = IntKind.i64.wrap (n157 + (↑v_155.fst : Int))) → (inK .i64 n160) → ((v_155.fst + 1) * 32 ≤ 140737488355328) ∧ ∀ (z163 : List YPut), (z163 = List.take v_155.fst v_155.snd.fst ++ List.take 1 (List.drop 0 [{ nb := (v_155.snd.snd.fst.getD (↑v_155.fst : Int).toNat (dflt 14)).nb, n := n160, data := (v_155.snd.snd.fst.getD (↑v_155.fst : Int).toNat (dflt 14)).data : YPut }])) → ∀ (n165 : Int), (n165 = IntKind.i64.wrap ((↑v_155.fst : Int) + (1 : Int))) → (inK .i64 n165) → ∃ (v' : Nat × List YPut × List YB × Int), ((0 : Int) = (0 : Int)) ∧ ((↑(half d) : Int) = (↑(half d) : Int)) ∧ (v_155.snd.snd.snd = v'.snd.snd.snd) ∧ (0 = 0) ∧ (v_155.fst + 1 = v'.fst) ∧ (v_155.snd.snd.fst = v'.snd.snd.fst) ∧ ((↑v_155.snd.snd.fst.length : Int) = (↑v'.snd.snd.fst.length : Int)) ∧ (n165 = (↑v'.fst : Int)) ∧ (z163 = v'.snd.fst) ∧ ((v'.fst ≤ half d) ∧ ((1 ≤ half d) ∧ (half d ≤ 32)) ∧ (v'.snd.snd.fst.length = half d) ∧ ((0 ≤ v'.snd.snd.snd) ∧ (v'.snd.snd.snd ≤ (1 : Int))) ∧ ((0 ≤ slo d v'.snd.snd.snd) ∧ (slo d v'.snd.snd.snd ≤ (32 : Int))) ∧ (v'.snd.fst.length = v'.fst) ∧ (BQ d m l v'.snd.snd.snd (List.map YB.data v'.snd.snd.fst)) ∧ (PuI (slo d v'.snd.snd.snd) (List.map YB.data v'.snd.snd.fst) v'.fst (List.map YPut.old v'.snd.fst)) ∧ (YPs yb v'.snd.fst) ∧ (YAll yb v'.snd.snd.fst)) ∧ (half d - v'.fst < half d - v_155.fst)) ((k (.tup [.row 13 0 0 v_155.fst, .int .i64 0]) [] [.row 13 v_155.snd.fst])))) ∧ ((c_29 = 1) → ((0 : Int) ≤ (1 : Int)) ∧ ((1 : Int) < (↑(2 : Nat) : Int)) ∧ ∀ (n169 : Int), (n169 = g1_11) → (inK .i64 n169) → (((0 : Int) ≤ (0 : Int)) ∧ ((0 : Int) < (↑(2 : Nat) : Int)) ∧ ((B64 b0_9) ∧ (0 ≤ n169) ∧ (n169 ≤ 4611686018427387903)) ∧ ∀ (r_172 : Int), (Nx n169 b0_9 r_172) → (1 ≤ r_172 ∧ r_172 ≤ 4611686018427387936) → ∃ (v : Int × Int), (n19 = (↑(half d) : Int)) ∧ (0 = v.snd) ∧ (r_172 = v.fst) ∧ (m = m) ∧ (l = l) ∧ ((1 ≤ half d) ∧ (half d ≤ 32)) ∧ ((0 ≤ m) ∧ (m ≤ 3)) ∧ ((1 ≤ v.fst) ∧ (v.fst ≤ 4611686018427387936)) ∧ ((0 ≤ v.snd) ∧ (v.snd ≤ 1)) ∧ (PQ d m l v.fst v.snd)) ∧ ∀ (v_175 : Int × Int), ((1 ≤ half d ∧ half d ≤ 32) ∧ (0 ≤ m ∧ m ≤ 3) ∧ (1 ≤ v_175.fst ∧ v_175.fst ≤ 4611686018427387936) ∧ (0 ≤ v_175.snd ∧ v_175.snd ≤ 1) ∧ PQ d m l v_175.fst v_175.snd) → ∀ (n177 : Int), (n177 = v_175.fst) → (inK .i64 n177) → br (decide (n177 ≥ 4611686018427387904)) ((k (.tup [.nilsl, .int .i64 190]) [] [])) ((((-9223372036854775808 ≤ v_175.fst) ∧ (v_175.fst ≤ 9223372036854775807)) ∧ (0 ≤ m) ∧ (m ≤ 255)) ∧ ∀ (e_180 : Int), ∀ (us_181 : List YB), (e_180 = blkE v_175.fst m l (↑(half d) : Int)) → (List.map YB.data us_181 = blkO v_175.fst m l (↑(half d) : Int)) → (YAll yb us_181) → (0 ≤ e_180 ∧ e_180 ≤ 190) → ((e_180 = 0) → (us_181.length = (↑(half d) : Int).toNat)) → ∀ (n187 : Int), (n187 = (↑us_181.length : Int)) → (inK .i64 n187) → (∃ (v : Nat × List YPut × List YB × Int), (e_180 = 0) ∧ ((↑(half d) : Int) = (↑(half d) : Int)) ∧ (v_175.snd = v.snd.snd.snd) ∧ (0 = 0) ∧ (0 = v.fst) ∧ (us_181 = v.snd.snd.fst) ∧ (n187 = (↑v.snd.snd.fst.length : Int)) ∧ ((0 : Int) = (↑v.fst : Int)) ∧ ([] = v.snd.fst) ∧ (v.fst ≤ half d) ∧ ((1 ≤ half d) ∧ (half d ≤ 32)) ∧ (v.snd.snd.fst.length = half d) ∧ ((0 ≤ v.snd.snd.snd) ∧ (v.snd.snd.snd ≤ 1)) ∧ ((0 ≤ slo d v.snd.snd.snd) ∧ (slo d v.snd.snd.snd ≤ 32)) ∧ (v.snd.fst.length = v.fst) ∧ (BQ d m l v.snd.snd.snd (List.map YB.data v.snd.snd.fst)) ∧ (PuI (slo d v.snd.snd.snd) (List.map YB.data v.snd.snd.fst) v.fst (List.map YPut.old v.snd.fst)) ∧ (YPs yb v.snd.fst) ∧ (YAll yb v.snd.snd.fst)) ∧ ∀ (v_190 : Nat × List YPut × List YB × Int), (v_190.fst ≤ half d ∧ (1 ≤ half d ∧ half d ≤ 32) ∧ v_190.snd.snd.fst.length = half d ∧ (0 ≤ v_190.snd.snd.snd ∧ v_190.snd.snd.snd ≤ 1) ∧ (0 ≤ slo d v_190.snd.snd.snd ∧ slo d v_190.snd.snd.snd ≤ 32) ∧ v_190.snd.fst.length = v_190.fst ∧ BQ d m l v_190.snd.snd.snd (List.map YB.data v_190.snd.snd.fst) ∧ PuI (slo d v_190.snd.snd.snd) (List.map YB.data v_190.snd.snd.fst) v_190.fst (List.map YPut.old v_190.snd.fst) ∧ YPs yb v_190.snd.fst ∧ YAll yb v_190.snd.snd.fst) → br (decide ((↑v_190.fst : Int) < (↑v_190.snd.snd.fst.length : Int))) (((0 : Int) ≤ (↑v_190.fst : Int)) ∧ ((↑v_190.fst : Int) < (↑v_190.snd.snd.fst.length : Int)) ∧ ∀ (n192 : Int), (n192 = IntKind.i64.wrap (v_190.snd.snd.snd * (↑(half d) : Int))) → (inK .i64 n192) → ∀ (n195 : Int), (n195 = IntKind.i64.wrap (n192 + (↑v_190.fst : Int))) → (inK .i64 n195) → ((v_190.fst + 1) * 32 ≤ 140737488355328) ∧ ∀ (z198 : List YPut), (z198 = List.take v_190.fst v_190.snd.fst ++ List.take 1 (List.drop 0 [{ nb := (v_190.snd.snd.fst.getD (↑v_190.fst : Int).toNat (dflt 14)).nb, n := n195, data := (v_190.snd.snd.fst.getD (↑v_190.fst : Int).toNat (dflt 14)).data : YPut }])) → ∀ (n200 : Int), (n200 = IntKind.i64.wrap ((↑v_190.fst : Int) + (1 : Int))) → (inK .i64 n200) → ∃ (v' : Nat × List YPut × List YB × Int), ((0 : Int) = (0 : Int)) ∧ ((↑(half d) : Int) = (↑(half d) : Int)) ∧ (v_190.snd.snd.snd = v'.snd.snd.snd) ∧ (0 = 0) ∧ (v_190.fst + 1 = v'.fst) ∧ (v_190.snd.snd.fst = v'.snd.snd.fst) ∧ ((↑v_190.snd.snd.fst.length : Int) = (↑v'.snd.snd.fst.length : Int)) ∧ (n200 = (↑v'.fst : Int)) ∧ (z198 = v'.snd.fst) ∧ ((v'.fst ≤ half d) ∧ ((1 ≤ half d) ∧ (half d ≤ 32)) ∧ (v'.snd.snd.fst.length = half d) ∧ ((0 ≤ v'.snd.snd.snd) ∧ (v'.snd.snd.snd ≤ (1 : Int))) ∧ ((0 ≤ slo d v'.snd.snd.snd) ∧ (slo d v'.snd.snd.snd ≤ (32 : Int))) ∧ (v'.snd.fst.length = v'.fst) ∧ (BQ d m l v'.snd.snd.snd (List.map YB.data v'.snd.snd.fst)) ∧ (PuI (slo d v'.snd.snd.snd) (List.map YB.data v'.snd.snd.fst) v'.fst (List.map YPut.old v'.snd.fst)) ∧ (YPs yb v'.snd.fst) ∧ (YAll yb v'.snd.snd.fst)) ∧ (half d - v'.fst < half d - v_190.fst)) ((k (.tup [.row 13 0 0 v_190.fst, .int .i64 0]) [] [.row 13 v_190.snd.fst]))))) ((((0 : Int) ≤ (0 : Int)) ∧ ((0 : Int) < (↑(2 : Nat) : Int)) ∧ ((B64 b0_9) ∧ ((0 : Int) ≤ (0 : Int)) ∧ ((0 : Int) ≤ (4611686018427387903 : Int))) ∧ ∀ (r_203 : Int), (Nx (0 : Int) b0_9 r_203) → (1 ≤ r_203 ∧ r_203 ≤ 4611686018427387936) → ∃ (v : Int × Int), (n19 = (↑(half d) : Int)) ∧ (0 = v.snd) ∧ (r_203 = v.fst) ∧ (m = m) ∧ (l = l) ∧ ((1 ≤ half d) ∧ (half d ≤ 32)) ∧ ((0 ≤ m) ∧ (m ≤ 3)) ∧ ((1 ≤ v.fst) ∧ (v.fst ≤ 4611686018427387936)) ∧ ((0 ≤ v.snd) ∧ (v.snd ≤ 1)) ∧ (PQ d m l v.fst v.snd)) ∧ ∀ (v_206 : Int × Int), ((1 ≤ half d ∧ half d ≤ 32) ∧ (0 ≤ m ∧ m ≤ 3) ∧ (1 ≤ v_206.fst ∧ v_206.fst ≤ 4611686018427387936) ∧ (0 ≤ v_206.snd ∧ v_206.snd ≤ 1) ∧ PQ d m l v_206.fst v_206.snd) → ∀ (n208 : Int), (n208 = v_206.fst) → (inK .i64 n208) → br (decide (n208 ≥ 4611686018427387904)) ((k (.tup [.nilsl, .int .i64 190]) [] [])) ((((-9223372036854775808 ≤ v_206.fst) ∧ (v_206.fst ≤ 9223372036854775807)) ∧ (0 ≤ m) ∧ (m ≤ 255)) ∧ ∀ (e_211 : Int), ∀ (us_212 : List YB), (e_211 = blkE v_206.fst m l (↑(half d) : Int)) → (List.map YB.data us_212 = blkO v_206.fst m l (↑(half d) : Int)) → (YAll yb us_212) → (0 ≤ e_211 ∧ e_211 ≤ 190) → ((e_211 = 0) → (us_212.length = (↑(half d) : Int).toNat)) → ∀ (n218 : Int), (n218 = (↑us_212.length : Int)) → (inK .i64 n218) → (∃ (v : Nat × List YPut × List YB × Int), (e_211 = 0) ∧ ((↑(half d) : Int) = (↑(half d) : Int)) ∧ (v_206.snd = v.snd.snd.snd) ∧ (0 = 0) ∧ (0 = v.fst) ∧ (us_212 = v.snd.snd.fst) ∧ (n218 = (↑v.snd.snd.fst.length : Int)) ∧ ((0 : Int) = (↑v.fst : Int)) ∧ ([] = v.snd.fst) ∧ (v.fst ≤ half d) ∧ ((1 ≤ half d) ∧ (half d ≤ 32)) ∧ (v.snd.snd.fst.length = half d) ∧ ((0 ≤ v.snd.snd.snd) ∧ (v.snd.snd.snd ≤ 1)) ∧ ((0 ≤ slo d v.snd.snd.snd) ∧ (slo d v.snd.snd.snd ≤ 32)) ∧ (v.snd.fst.length = v.fst) ∧ (BQ d m l v.snd.snd.snd (List.map YB.data v.snd.snd.fst)) ∧ (PuI (slo d v.snd.snd.snd) (List.map YB.data v.snd.snd.fst) v.fst (List.map YPut.old v.snd.fst)) ∧ (YPs yb v.snd.fst) ∧ (YAll yb v.snd.snd.fst)) ∧ ∀ (v_221 : Nat × List YPut × List YB × Int), (v_221.fst ≤ half d ∧ (1 ≤ half d ∧ half d ≤ 32) ∧ v_221.snd.snd.fst.length = half d ∧ (0 ≤ v_221.snd.snd.snd ∧ v_221.snd.snd.snd ≤ 1) ∧ (0 ≤ slo d v_221.snd.snd.snd ∧ slo d v_221.snd.snd.snd ≤ 32) ∧ v_221.snd.fst.length = v_221.fst ∧ BQ d m l v_221.snd.snd.snd (List.map YB.data v_221.snd.snd.fst) ∧ PuI (slo d v_221.snd.snd.snd) (List.map YB.data v_221.snd.snd.fst) v_221.fst (List.map YPut.old v_221.snd.fst) ∧ YPs yb v_221.snd.fst ∧ YAll yb v_221.snd.snd.fst) → br (decide ((↑v_221.fst : Int) < (↑v_221.snd.snd.fst.length : Int))) (((0 : Int) ≤ (↑v_221.fst : Int)) ∧ ((↑v_221.fst : Int) < (↑v_221.snd.snd.fst.length : Int)) ∧ ∀ (n223 : Int), (n223 = IntKind.i64.wrap (v_221.snd.snd.snd * (↑(half d) : Int))) → (inK .i64 n223) → ∀ (n226 : Int), (n226 = IntKind.i64.wrap (n223 + (↑v_221.fst : Int))) → (inK .i64 n226) → ((v_221.fst + 1) * 32 ≤ 140737488355328) ∧ ∀ (z229 : List YPut), (z229 = List.take v_221.fst v_221.snd.fst ++ List.take 1 (List.drop 0 [{ nb := (v_221.snd.snd.fst.getD (↑v_221.fst : Int).toNat (dflt 14)).nb, n := n226, data := (v_221.snd.snd.fst.getD (↑v_221.fst : Int).toNat (dflt 14)).data : YPut }])) → ∀ (n231 : Int), (n231 = IntKind.i64.wrap ((↑v_221.fst : Int) + (1 : Int))) → (inK .i64 n231) → ∃ (v' : Nat × List YPut × List YB × Int), ((0 : Int) = (0 : Int)) ∧ ((↑(half d) : Int) = (↑(half d) : Int)) ∧ (v_221.snd.snd.snd = v'.snd.snd.snd) ∧ (0 = 0) ∧ (v_221.fst + 1 = v'.fst) ∧ (v_221.snd.snd.fst = v'.snd.snd.fst) ∧ ((↑v_221.snd.snd.fst.length : Int) = (↑v'.snd.snd.fst.length : Int)) ∧ (n231 = (↑v'.fst : Int)) ∧ (z229 = v'.snd.fst) ∧ ((v'.fst ≤ half d) ∧ ((1 ≤ half d) ∧ (half d ≤ 32)) ∧ (v'.snd.snd.fst.length = half d) ∧ ((0 ≤ v'.snd.snd.snd) ∧ (v'.snd.snd.snd ≤ (1 : Int))) ∧ ((0 ≤ slo d v'.snd.snd.snd) ∧ (slo d v'.snd.snd.snd ≤ (32 : Int))) ∧ (v'.snd.fst.length = v'.fst) ∧ (BQ d m l v'.snd.snd.snd (List.map YB.data v'.snd.snd.fst)) ∧ (PuI (slo d v'.snd.snd.snd) (List.map YB.data v'.snd.snd.fst) v'.fst (List.map YPut.old v'.snd.fst)) ∧ (YPs yb v'.snd.fst) ∧ (YAll yb v'.snd.snd.fst)) ∧ (half d - v'.fst < half d - v_221.fst)) ((k (.tup [.row 13 0 0 v_221.fst, .int .i64 0]) [] [.row 13 v_221.snd.fst])))))))) := by
 refine ⟨?_, ?_⟩
 ·
  intro e_1 h1 h2 ⟨a3, b3⟩
  refine br_intro (fun c4 => ?_) (fun c4 => ?_)
  ·
   simp at c4
   exact hk.1 _ (pt_a h1 (by assumption)) (by assumption)
  simp at c4
  exfalso; omega
 intro h5 h0_5 g0_6 m0_7 p0_8 b0_9 h1_10 g1_11 m1_12 p1_13 b1_14 h6 h7 h8 ⟨a9, b9⟩
 refine brd (fun c10 => ?_) (fun c10 => ?_)
 ·
  exact hk.1 _ (pt_b h5.ask (by omega)) (by decide)
 refine ⟨by first | omega | (dsimp only; omega), by first | omega | (dsimp only; omega), ?_⟩
 intro n19 q19 ⟨l19, u19⟩
 refine ⟨?_, ?_⟩
 ·
  refine ⟨by first | omega | (dsimp only; omega), by first | omega | (dsimp only; omega), ?_⟩
  exact by omega
 intro e_22 us_23 h11 h12 h13 ⟨a14, b14⟩ h15
 refine br_intro (fun c16 => ?_) (fun c16 => ?_)
 ·
  simp at c16
  have hh : n19 = (half d : Int) := by omega
  rw [hh] at h11
  exact hk.1 _ (pt_c h5.ask (by omega) h11 (by assumption)) (by assumption)
 simp at c16
 intro c_29 h17 ⟨a18, b18⟩
 refine br_intro (fun c19 => ?_) (fun c19 => ?_)
 ·
  simp at c19
  refine brd (fun c20 => ?_) (fun c20 => ?_)
  ·
   refine ⟨by exact ⟨by assumption, by assumption⟩, ?_⟩
   refine ⟨?_, ?_⟩
   ·
    intro h21
    refine ⟨by first | omega | (dsimp only; omega), by first | omega | (dsimp only; omega), ?_⟩
    intro n33 q33 ⟨l33, u33⟩
    refine ⟨?_, ?_⟩
    ·
     refine ⟨by first | omega | (dsimp only; omega), by first | omega | (dsimp only; omega), ?_⟩
     refine ⟨?_, ?_⟩
     ·
      have h22 : B64 b1_14 := by
       rw [h6.b.b]; exact slot_b64 h5 (by omega)
      refine ⟨h22, by first | omega | (dsimp only; omega), ?_⟩
      exact by omega
     intro r_36 h23 ⟨a24, b24⟩
     refine ⟨(r_36, (1 : Int)), by show n19 = (↑(half d) : Int); omega, rfl, rfl, rfl, rfl, ?_⟩
     refine ⟨?_, ?_⟩
     ·
      have h25 : (1 : Nat) ≤ half d := by
       have := h5.in; omega
      refine ⟨h25, ?_⟩
      have := h5.in; omega
     refine ⟨by first | omega | (dsimp only; omega), by exact ⟨by assumption, by assumption⟩, by first | omega | (dsimp only; omega), ?_⟩
     have eb : blkE 1 m l (half d : Int) = 0 := by rw [show (half d : Int) = n19 by omega, ← h11]; exact c16
     rw [q33] at h23
     exact pq_of h5 (by omega) eb (h6.cd0 h17 c19) rfl h6.b.b h23
    intro v_39 h26 n41 q41 ⟨l41, u41⟩
    refine brd (fun c27 => ?_) (fun c27 => ?_)
    ·
     exact hk.1 _ (pt_d h26.2.2.2.2 (by omega)) (by decide)
    refine ⟨?_, ?_⟩
    ·
     refine ⟨by first | omega | (dsimp only; omega), by first | omega | (dsimp only; omega), ?_⟩
     exact by omega
    intro e_44 us_45 h28 h29 h30 ⟨a31, b31⟩ h32 n51 q51 ⟨l51, u51⟩
    refine ⟨?_, ?_⟩
    ·
     refine ⟨((0 : Nat), [], us_45, v_39.snd), ?_⟩
     have h33 : e_44 = (0 : Int) := by
      rw [h28]
      exact blkE_gen (g := v_39.fst) h26.2.2.2.2.b (by omega)
     refine ⟨h33, rfl, rfl, rfl, rfl, rfl, by show n51 = (↑us_45.length : Int); assumption, by show (0 : Int) = (↑(0 : Nat) : Int); omega, rfl, by show (0 : Nat) ≤ half d; omega, by first | omega | (dsimp only; omega), by show us_45.length = half d; omega, by first | omega | (dsimp only; omega), ?_⟩
     refine ⟨?_, ?_⟩
     ·
      have h34 : (0 : Int) ≤ slo d v_39.snd := by
       have D := askD_0 h26.2.2.2.2.a
       have := slo_in D (i := v_39.snd) (by omega)
       try dsimp only
       omega
      refine ⟨h34, ?_⟩
      have D := askD_0 h26.2.2.2.2.a
      have := slo_in D (i := v_39.snd) (by omega)
      try dsimp only
      omega
     refine ⟨rfl, ?_⟩
     have h35 : BQ d m l v_39.snd (List.map YB.data us_45) := by
      exact ⟨_, h26.2.2.2.2, by omega, h29⟩
     refine ⟨h35, ?_⟩
     have h36 : PuI (slo d v_39.snd) (List.map YB.data us_45) (0 : Nat) (List.map YPut.old []) := by
      exact pu_0 _ _
     refine ⟨h36, ?_⟩
     have h37 : YPs yb [] := by
      exact ⟨fun z hz => by cases hz⟩
     refine ⟨h37, ?_⟩
     exact by show YAll yb us_45; assumption
    intro v_54 h38
    refine brd (fun c39 => ?_) (fun c39 => ?_)
    ·
     refine ⟨by first | omega | (dsimp only; omega), by assumption, ?_⟩
     intro n56 q56
     first | (rw [wrI64] at q56; rotate_left 1; · omega) | rw [IntKind.wrap_i64] at q56
     intro ⟨l56, u56⟩ n59 q59
     first | (rw [wrI64] at q59; rotate_left 1; · omega) | rw [IntKind.wrap_i64] at q59
     intro ⟨l59, u59⟩
     refine ⟨by first | omega | (dsimp only; omega), ?_⟩
     intro z62 qz62 n64 q64
     first | (rw [wrI64] at q64; rotate_left 1; · omega) | rw [IntKind.wrap_i64] at q64
     intro ⟨l64, u64⟩
     refine ⟨(v_54.fst + (1 : Nat), z62, v_54.snd.snd.fst, v_54.snd.snd.snd), rfl, rfl, rfl, rfl, rfl, rfl, rfl, by show n64 = (↑(v_54.fst + (1 : Nat)) : Int); omega, rfl, ?_⟩
     refine ⟨?_, ?_⟩
     ·
      refine ⟨by show v_54.fst + (1 : Nat) ≤ half d; omega, by first | omega | (dsimp only; omega), by show v_54.snd.snd.fst.length = half d; omega, by first | omega | (dsimp only; omega), by first | omega | (dsimp only; omega), ?_⟩
      have h40 : z62.length = v_54.fst + (1 : Nat) := by
       rw [slo_mul rfl] at q56
       have D := askD_0 (BQ.h h38.2.2.2.2.2.2.1).choose_spec.1.a
       have e : n59 = slo d v_54.snd.snd.snd + (v_54.fst : Int) := by omega
       have hl : v_54.fst < v_54.snd.snd.fst.length := by omega
       have Z := YPs.dat h38.2.2.2.2.2.2.2.2.2 hl qz62
       have Q := pu_step h38.2.2.2.2.2.2.2.1 (by rw [List.length_map]; exact h38.2.2.2.2.2.1) e rfl Z
       have := Q.2
       rw [List.length_map] at this
       exact this
      refine ⟨h40, ?_⟩
      have h41 : BQ d m l v_54.snd.snd.snd (List.map YB.data v_54.snd.snd.fst) := by
       exact h38.2.2.2.2.2.2.1
      refine ⟨h41, ?_⟩
      have h42 : PuI (slo d v_54.snd.snd.snd) (List.map YB.data v_54.snd.snd.fst) (v_54.fst + (1 : Nat)) (List.map YPut.old z62) := by
       rw [slo_mul rfl] at q56
       have D := askD_0 (BQ.h h38.2.2.2.2.2.2.1).choose_spec.1.a
       have e : n59 = slo d v_54.snd.snd.snd + (v_54.fst : Int) := by omega
       have hl : v_54.fst < v_54.snd.snd.fst.length := by omega
       have Z := YPs.dat h38.2.2.2.2.2.2.2.2.2 hl qz62
       have Q := pu_step h38.2.2.2.2.2.2.2.1 (by rw [List.length_map]; exact h38.2.2.2.2.2.1) e rfl Z
       exact Q.1
      refine ⟨h42, ?_⟩
      have h43 : YPs yb z62 := by
       rw [slo_mul rfl] at q56
       have D := askD_0 (BQ.h h38.2.2.2.2.2.2.1).choose_spec.1.a
       have e : n59 = slo d v_54.snd.snd.snd + (v_54.fst : Int) := by omega
       have hl : v_54.fst < v_54.snd.snd.fst.length := by omega
       have Z := YPs.dat h38.2.2.2.2.2.2.2.2.2 hl qz62
       have Q := pu_step h38.2.2.2.2.2.2.2.1 (by rw [List.length_map]; exact h38.2.2.2.2.2.1) e rfl Z
       exact h38.2.2.2.2.2.2.2.2.1.app h38.2.2.2.2.2.2.2.2.2 hl qz62
      refine ⟨h43, ?_⟩
      exact h38.2.2.2.2.2.2.2.2.2
     exact by show half d - (v_54.fst + (1 : Nat)) < half d - v_54.fst; omega
    exact hk.2 _ _ (pt_f h38.2.2.2.2.2.2.1 h38.2.2.2.2.2.2.2.1 (by omega)) h38.2.2.2.2.2.2.2.2.1 h38.2.2.2.2.2.1
   intro h44
   refine ⟨by first | omega | (dsimp only; omega), by first | omega | (dsimp only; omega), ?_⟩
   intro n68 q68 ⟨l68, u68⟩
   refine ⟨?_, ?_⟩
   ·
    refine ⟨by first | omega | (dsimp only; omega), by first | omega | (dsimp only; omega), ?_⟩
    refine ⟨?_, ?_⟩
    ·
     refine ⟨by first | omega | (dsimp only; omega), by first | omega | (dsimp only; omega), ?_⟩
     exact by omega
    intro r_71 h45 ⟨a46, b46⟩
    refine ⟨(r_71, (1 : Int)), by show n19 = (↑(half d) : Int); omega, rfl, rfl, rfl, rfl, by first | omega | (dsimp only; omega), by first | omega | (dsimp only; omega), by exact ⟨by assumption, by assumption⟩, by first | omega | (dsimp only; omega), ?_⟩
    exact by show PQ d m l r_71 (1 : Int); omega
   intro v_74 h47 n76 q76 ⟨l76, u76⟩
   refine brd (fun c48 => ?_) (fun c48 => ?_)
   ·
    exfalso; omega
   exfalso; omega
  exfalso; omega
 simp at c19
 refine brd (fun c49 => ?_) (fun c49 => ?_)
 ·
  refine ⟨by exact ⟨by assumption, by assumption⟩, ?_⟩
  refine ⟨?_, ?_⟩
  ·
   intro h50
   refine ⟨by first | omega | (dsimp only; omega), by first | omega | (dsimp only; omega), ?_⟩
   intro n134 q134 ⟨l134, u134⟩
   refine ⟨?_, ?_⟩
   ·
    refine ⟨by first | omega | (dsimp only; omega), by first | omega | (dsimp only; omega), ?_⟩
    refine ⟨?_, ?_⟩
    ·
     refine ⟨by first | omega | (dsimp only; omega), by first | omega | (dsimp only; omega), ?_⟩
     exact by omega
    intro r_137 h51 ⟨a52, b52⟩
    refine ⟨(r_137, (0 : Int)), by show n19 = (↑(half d) : Int); omega, rfl, rfl, rfl, rfl, by first | omega | (dsimp only; omega), by first | omega | (dsimp only; omega), by exact ⟨by assumption, by assumption⟩, by first | omega | (dsimp only; omega), ?_⟩
    exact by show PQ d m l r_137 (0 : Int); omega
   intro v_140 h53 n142 q142 ⟨l142, u142⟩
   refine brd (fun c54 => ?_) (fun c54 => ?_)
   ·
    exfalso; omega
   exfalso; omega
  intro h55
  refine ⟨by first | omega | (dsimp only; omega), by first | omega | (dsimp only; omega), ?_⟩
  intro n169 q169 ⟨l169, u169⟩
  refine ⟨?_, ?_⟩
  ·
   refine ⟨by first | omega | (dsimp only; omega), by first | omega | (dsimp only; omega), ?_⟩
   refine ⟨?_, ?_⟩
   ·
    have h56 : B64 b0_9 := by
     rw [h6.a.b]; exact slot_b64 h5 (by omega)
    refine ⟨h56, by first | omega | (dsimp only; omega), ?_⟩
    exact by omega
   intro r_172 h57 ⟨a58, b58⟩
   refine ⟨(r_172, (0 : Int)), by show n19 = (↑(half d) : Int); omega, rfl, rfl, rfl, rfl, ?_⟩
   refine ⟨?_, ?_⟩
   ·
    have h59 : (1 : Nat) ≤ half d := by
     have := h5.in; omega
    refine ⟨h59, ?_⟩
    have := h5.in; omega
   refine ⟨by first | omega | (dsimp only; omega), by exact ⟨by assumption, by assumption⟩, by first | omega | (dsimp only; omega), ?_⟩
   have eb : blkE 1 m l (half d : Int) = 0 := by rw [show (half d : Int) = n19 by omega, ← h11]; exact c16
   rw [q169] at h57
   exact pq_of h5 (by omega) eb (h6.cd1 h17 h55) rfl h6.a.b h57
  intro v_175 h60 n177 q177 ⟨l177, u177⟩
  refine brd (fun c61 => ?_) (fun c61 => ?_)
  ·
   exact hk.1 _ (pt_d h60.2.2.2.2 (by omega)) (by decide)
  refine ⟨?_, ?_⟩
  ·
   refine ⟨by first | omega | (dsimp only; omega), by first | omega | (dsimp only; omega), ?_⟩
   exact by omega
  intro e_180 us_181 h62 h63 h64 ⟨a65, b65⟩ h66 n187 q187 ⟨l187, u187⟩
  refine ⟨?_, ?_⟩
  ·
   refine ⟨((0 : Nat), [], us_181, v_175.snd), ?_⟩
   have h67 : e_180 = (0 : Int) := by
    rw [h62]
    exact blkE_gen (g := v_175.fst) h60.2.2.2.2.b (by omega)
   refine ⟨h67, rfl, rfl, rfl, rfl, rfl, by show n187 = (↑us_181.length : Int); assumption, by show (0 : Int) = (↑(0 : Nat) : Int); omega, rfl, by show (0 : Nat) ≤ half d; omega, by first | omega | (dsimp only; omega), by show us_181.length = half d; omega, by first | omega | (dsimp only; omega), ?_⟩
   refine ⟨?_, ?_⟩
   ·
    have h68 : (0 : Int) ≤ slo d v_175.snd := by
     have D := askD_0 h60.2.2.2.2.a
     have := slo_in D (i := v_175.snd) (by omega)
     try dsimp only
     omega
    refine ⟨h68, ?_⟩
    have D := askD_0 h60.2.2.2.2.a
    have := slo_in D (i := v_175.snd) (by omega)
    try dsimp only
    omega
   refine ⟨rfl, ?_⟩
   have h69 : BQ d m l v_175.snd (List.map YB.data us_181) := by
    exact ⟨_, h60.2.2.2.2, by omega, h63⟩
   refine ⟨h69, ?_⟩
   have h70 : PuI (slo d v_175.snd) (List.map YB.data us_181) (0 : Nat) (List.map YPut.old []) := by
    exact pu_0 _ _
   refine ⟨h70, ?_⟩
   have h71 : YPs yb [] := by
    exact ⟨fun z hz => by cases hz⟩
   refine ⟨h71, ?_⟩
   exact by show YAll yb us_181; assumption
  intro v_190 h72
  refine brd (fun c73 => ?_) (fun c73 => ?_)
  ·
   refine ⟨by first | omega | (dsimp only; omega), by assumption, ?_⟩
   intro n192 q192
   first | (rw [wrI64] at q192; rotate_left 1; · omega) | rw [IntKind.wrap_i64] at q192
   intro ⟨l192, u192⟩ n195 q195
   first | (rw [wrI64] at q195; rotate_left 1; · omega) | rw [IntKind.wrap_i64] at q195
   intro ⟨l195, u195⟩
   refine ⟨by first | omega | (dsimp only; omega), ?_⟩
   intro z198 qz198 n200 q200
   first | (rw [wrI64] at q200; rotate_left 1; · omega) | rw [IntKind.wrap_i64] at q200
   intro ⟨l200, u200⟩
   refine ⟨(v_190.fst + (1 : Nat), z198, v_190.snd.snd.fst, v_190.snd.snd.snd), rfl, rfl, rfl, rfl, rfl, rfl, rfl, by show n200 = (↑(v_190.fst + (1 : Nat)) : Int); omega, rfl, ?_⟩
   refine ⟨?_, ?_⟩
   ·
    refine ⟨by show v_190.fst + (1 : Nat) ≤ half d; omega, by first | omega | (dsimp only; omega), by show v_190.snd.snd.fst.length = half d; omega, by first | omega | (dsimp only; omega), by first | omega | (dsimp only; omega), ?_⟩
    have h74 : z198.length = v_190.fst + (1 : Nat) := by
     rw [slo_mul rfl] at q192
     have D := askD_0 (BQ.h h72.2.2.2.2.2.2.1).choose_spec.1.a
     have e : n195 = slo d v_190.snd.snd.snd + (v_190.fst : Int) := by omega
     have hl : v_190.fst < v_190.snd.snd.fst.length := by omega
     have Z := YPs.dat h72.2.2.2.2.2.2.2.2.2 hl qz198
     have Q := pu_step h72.2.2.2.2.2.2.2.1 (by rw [List.length_map]; exact h72.2.2.2.2.2.1) e rfl Z
     have := Q.2
     rw [List.length_map] at this
     exact this
    refine ⟨h74, ?_⟩
    have h75 : BQ d m l v_190.snd.snd.snd (List.map YB.data v_190.snd.snd.fst) := by
     exact h72.2.2.2.2.2.2.1
    refine ⟨h75, ?_⟩
    have h76 : PuI (slo d v_190.snd.snd.snd) (List.map YB.data v_190.snd.snd.fst) (v_190.fst + (1 : Nat)) (List.map YPut.old z198) := by
     rw [slo_mul rfl] at q192
     have D := askD_0 (BQ.h h72.2.2.2.2.2.2.1).choose_spec.1.a
     have e : n195 = slo d v_190.snd.snd.snd + (v_190.fst : Int) := by omega
     have hl : v_190.fst < v_190.snd.snd.fst.length := by omega
     have Z := YPs.dat h72.2.2.2.2.2.2.2.2.2 hl qz198
     have Q := pu_step h72.2.2.2.2.2.2.2.1 (by rw [List.length_map]; exact h72.2.2.2.2.2.1) e rfl Z
     exact Q.1
    refine ⟨h76, ?_⟩
    have h77 : YPs yb z198 := by
     rw [slo_mul rfl] at q192
     have D := askD_0 (BQ.h h72.2.2.2.2.2.2.1).choose_spec.1.a
     have e : n195 = slo d v_190.snd.snd.snd + (v_190.fst : Int) := by omega
     have hl : v_190.fst < v_190.snd.snd.fst.length := by omega
     have Z := YPs.dat h72.2.2.2.2.2.2.2.2.2 hl qz198
     have Q := pu_step h72.2.2.2.2.2.2.2.1 (by rw [List.length_map]; exact h72.2.2.2.2.2.1) e rfl Z
     exact h72.2.2.2.2.2.2.2.2.1.app h72.2.2.2.2.2.2.2.2.2 hl qz198
    refine ⟨h77, ?_⟩
    exact h72.2.2.2.2.2.2.2.2.2
   exact by show half d - (v_190.fst + (1 : Nat)) < half d - v_190.fst; omega
  exact hk.2 _ _ (pt_f h72.2.2.2.2.2.2.1 h72.2.2.2.2.2.2.2.1 (by omega)) h72.2.2.2.2.2.2.2.2.1 h72.2.2.2.2.2.1
 refine ⟨?_, ?_⟩
 ·
  refine ⟨by first | omega | (dsimp only; omega), by first | omega | (dsimp only; omega), ?_⟩
  refine ⟨?_, ?_⟩
  ·
   have h78 : B64 b0_9 := by
    rw [h6.a.b]; exact slot_b64 h5 (by omega)
   refine ⟨h78, by first | omega | (dsimp only; omega), ?_⟩
   exact by omega
  intro r_203 h79 ⟨a80, b80⟩
  refine ⟨(r_203, (0 : Int)), by show n19 = (↑(half d) : Int); omega, rfl, rfl, rfl, rfl, ?_⟩
  refine ⟨?_, ?_⟩
  ·
   have h81 : (1 : Nat) ≤ half d := by
    have := h5.in; omega
   refine ⟨h81, ?_⟩
   have := h5.in; omega
  refine ⟨by first | omega | (dsimp only; omega), by exact ⟨by assumption, by assumption⟩, by first | omega | (dsimp only; omega), ?_⟩
  have eb : blkE 1 m l (half d : Int) = 0 := by rw [show (half d : Int) = n19 by omega, ← h11]; exact c16
  exact pq_of h5 (by omega) eb (h6.cd2 h17 (by omega)) rfl h6.a.b h79
 intro v_206 h82 n208 q208 ⟨l208, u208⟩
 refine brd (fun c83 => ?_) (fun c83 => ?_)
 ·
  exact hk.1 _ (pt_d h82.2.2.2.2 (by omega)) (by decide)
 refine ⟨?_, ?_⟩
 ·
  refine ⟨by first | omega | (dsimp only; omega), by first | omega | (dsimp only; omega), ?_⟩
  exact by omega
 intro e_211 us_212 h84 h85 h86 ⟨a87, b87⟩ h88 n218 q218 ⟨l218, u218⟩
 refine ⟨?_, ?_⟩
 ·
  refine ⟨((0 : Nat), [], us_212, v_206.snd), ?_⟩
  have h89 : e_211 = (0 : Int) := by
   rw [h84]
   exact blkE_gen (g := v_206.fst) h82.2.2.2.2.b (by omega)
  refine ⟨h89, rfl, rfl, rfl, rfl, rfl, by show n218 = (↑us_212.length : Int); assumption, by show (0 : Int) = (↑(0 : Nat) : Int); omega, rfl, by show (0 : Nat) ≤ half d; omega, by first | omega | (dsimp only; omega), by show us_212.length = half d; omega, by first | omega | (dsimp only; omega), ?_⟩
  refine ⟨?_, ?_⟩
  ·
   have h90 : (0 : Int) ≤ slo d v_206.snd := by
    have D := askD_0 h82.2.2.2.2.a
    have := slo_in D (i := v_206.snd) (by omega)
    try dsimp only
    omega
   refine ⟨h90, ?_⟩
   have D := askD_0 h82.2.2.2.2.a
   have := slo_in D (i := v_206.snd) (by omega)
   try dsimp only
   omega
  refine ⟨rfl, ?_⟩
  have h91 : BQ d m l v_206.snd (List.map YB.data us_212) := by
   exact ⟨_, h82.2.2.2.2, by omega, h85⟩
  refine ⟨h91, ?_⟩
  have h92 : PuI (slo d v_206.snd) (List.map YB.data us_212) (0 : Nat) (List.map YPut.old []) := by
   exact pu_0 _ _
  refine ⟨h92, ?_⟩
  have h93 : YPs yb [] := by
   exact ⟨fun z hz => by cases hz⟩
  refine ⟨h93, ?_⟩
  exact by show YAll yb us_212; assumption
 intro v_221 h94
 refine brd (fun c95 => ?_) (fun c95 => ?_)
 ·
  refine ⟨by first | omega | (dsimp only; omega), by assumption, ?_⟩
  intro n223 q223
  first | (rw [wrI64] at q223; rotate_left 1; · omega) | rw [IntKind.wrap_i64] at q223
  intro ⟨l223, u223⟩ n226 q226
  first | (rw [wrI64] at q226; rotate_left 1; · omega) | rw [IntKind.wrap_i64] at q226
  intro ⟨l226, u226⟩
  refine ⟨by first | omega | (dsimp only; omega), ?_⟩
  intro z229 qz229 n231 q231
  first | (rw [wrI64] at q231; rotate_left 1; · omega) | rw [IntKind.wrap_i64] at q231
  intro ⟨l231, u231⟩
  refine ⟨(v_221.fst + (1 : Nat), z229, v_221.snd.snd.fst, v_221.snd.snd.snd), rfl, rfl, rfl, rfl, rfl, rfl, rfl, by show n231 = (↑(v_221.fst + (1 : Nat)) : Int); omega, rfl, ?_⟩
  refine ⟨?_, ?_⟩
  ·
   refine ⟨by show v_221.fst + (1 : Nat) ≤ half d; omega, by first | omega | (dsimp only; omega), by show v_221.snd.snd.fst.length = half d; omega, by first | omega | (dsimp only; omega), by first | omega | (dsimp only; omega), ?_⟩
   have h96 : z229.length = v_221.fst + (1 : Nat) := by
    rw [slo_mul rfl] at q223
    have D := askD_0 (BQ.h h94.2.2.2.2.2.2.1).choose_spec.1.a
    have e : n226 = slo d v_221.snd.snd.snd + (v_221.fst : Int) := by omega
    have hl : v_221.fst < v_221.snd.snd.fst.length := by omega
    have Z := YPs.dat h94.2.2.2.2.2.2.2.2.2 hl qz229
    have Q := pu_step h94.2.2.2.2.2.2.2.1 (by rw [List.length_map]; exact h94.2.2.2.2.2.1) e rfl Z
    have := Q.2
    rw [List.length_map] at this
    exact this
   refine ⟨h96, ?_⟩
   have h97 : BQ d m l v_221.snd.snd.snd (List.map YB.data v_221.snd.snd.fst) := by
    exact h94.2.2.2.2.2.2.1
   refine ⟨h97, ?_⟩
   have h98 : PuI (slo d v_221.snd.snd.snd) (List.map YB.data v_221.snd.snd.fst) (v_221.fst + (1 : Nat)) (List.map YPut.old z229) := by
    rw [slo_mul rfl] at q223
    have D := askD_0 (BQ.h h94.2.2.2.2.2.2.1).choose_spec.1.a
    have e : n226 = slo d v_221.snd.snd.snd + (v_221.fst : Int) := by omega
    have hl : v_221.fst < v_221.snd.snd.fst.length := by omega
    have Z := YPs.dat h94.2.2.2.2.2.2.2.2.2 hl qz229
    have Q := pu_step h94.2.2.2.2.2.2.2.1 (by rw [List.length_map]; exact h94.2.2.2.2.2.1) e rfl Z
    exact Q.1
   refine ⟨h98, ?_⟩
   have h99 : YPs yb z229 := by
    rw [slo_mul rfl] at q223
    have D := askD_0 (BQ.h h94.2.2.2.2.2.2.1).choose_spec.1.a
    have e : n226 = slo d v_221.snd.snd.snd + (v_221.fst : Int) := by omega
    have hl : v_221.fst < v_221.snd.snd.fst.length := by omega
    have Z := YPs.dat h94.2.2.2.2.2.2.2.2.2 hl qz229
    have Q := pu_step h94.2.2.2.2.2.2.2.1 (by rw [List.length_map]; exact h94.2.2.2.2.2.1) e rfl Z
    exact h94.2.2.2.2.2.2.2.2.1.app h94.2.2.2.2.2.2.2.2.2 hl qz229
   refine ⟨h99, ?_⟩
   exact h94.2.2.2.2.2.2.2.2.2
  exact by show half d - (v_221.fst + (1 : Nat)) < half d - v_221.fst; omega
 exact hk.2 _ _ (pt_f h94.2.2.2.2.2.2.1 h94.2.2.2.2.2.2.2.1 (by omega)) h94.2.2.2.2.2.2.2.2.1 h94.2.2.2.2.2.1
theorem putzY_ok (yb : Nat) : HoldsN yb Try.prog 19 (putzY yb) := by
  refine fn_soundY (env := { mkEnvY yb (G1Y yb) with mode := md [(16000, 2)] }) (tabN_ok (G1Y_ok yb)) Try.func19 Try.call19 fun args k h => ?_
  match args, h with
  | [.agg [.sl 0 d], .int .u8 m, .sl 10 l], h => exact ⟨by kernel_rfl, putzLoops yb d m l, putzCuts d m l, .cast (by kernel_rfl) (putz_vc yb d m l h.1 k h.2)⟩
set_option maxHeartbeats 2000000 in
theorem sameP_vc (c : Int) (o : Int) (s : List Int) (c' : Int) (o' : Int) (s' : List Int) (k : AV → List (Option Blk) → List Blk → Prop) (hk : ∀ (r : Bool), (r = true ↔ c = c' ∧ o = o' ∧ s = s') → k (.bool r) [] []) : ∀ (n1 : Int), (n1 = c) → (inK .i64 n1) → ∀ (n4 : Int), (n4 = c') → (inK .i64 n4) → ∀ (n7 : Int), (n7 = o) → ∀ (n9 : Int), (n9 = o') → br (bif n1 == n4 then n7 == n9 else false) (∀ (r_11 : Bool), (r_11 = true ↔ s = s') → (k (.bool (bif true then r_11 else false)) [] [])) ((false = false) ∧ (k (.bool false) [] [])) := by
 intro n1 q1 ⟨l1, u1⟩ n4 q4 ⟨l4, u4⟩ n7 q7 n9 q9
 refine br_intro (fun c1 => ?_) (fun c1 => ?_)
 ·
  simp at c1
  intro r_11 h2
  refine hk _ ?_
  rw [cond_true, h2]
  constructor
  ·
   intro e; exact ⟨by omega, by omega, e⟩
  rintro ⟨-, -, e⟩; exact e
 simp at c1
 refine ⟨by with_reducible rfl, ?_⟩
 refine hk false ⟨fun e => (by cases e), ?_⟩
 rintro ⟨e1, e2, -⟩
 exact absurd (show n7 = n9 by omega) (c1 (by omega))
theorem sameP_ok : Holds Try.prog 52 samePS := by
  refine fn_sound (env := mkEnv G3a) (tab_ok G3a_ok) Try.func52 Try.call52 fun args k h => ?_
  match args, h with
  | [.agg [.int .i64 c, .int .i64 o, .sl 1 s], .agg [.int .i64 c', .int .i64 o', .sl 1 s']], h => exact ⟨by kernel_rfl, fun _ _ => none, fun _ _ => none, .cast (by kernel_rfl) (sameP_vc c o s c' o' s' k h)⟩
theorem G3b_ok : TabOk Try.prog G3b := ⟨sameP_ok, trivial⟩
set_option maxHeartbeats 2000000 in
theorem samePl_vc (a : List Plan) (b : List Plan) (k : AV → List (Option Blk) → List Blk → Prop) (hk : ∀ (r : Bool), (r = true ↔ a = b) → k (.bool r) [] []) : ∀ (n1 : Int), (n1 = (↑a.length : Int)) → (inK .i64 n1) → ∀ (n4 : Int), (n4 = (↑b.length : Int)) → (inK .i64 n4) → br (n1 != n4) ((k (.bool false) [] [])) ((∃ (v : Nat), (a = a) ∧ (b = b) ∧ ((0 : Int) = (↑v : Int)) ∧ (v ≤ a.length) ∧ (a.length = b.length) ∧ (eqP a b v)) ∧ ∀ (v_7 : Nat), (v_7 ≤ a.length ∧ a.length = b.length ∧ eqP a b v_7) → ∀ (n9 : Int), (n9 = (↑a.length : Int)) → (inK .i64 n9) → br (decide ((↑v_7 : Int) < n9)) (((0 : Int) ≤ (↑v_7 : Int)) ∧ ((↑v_7 : Int) < (↑a.length : Int)) ∧ ((0 : Int) ≤ (↑v_7 : Int)) ∧ ((↑v_7 : Int) < (↑b.length : Int)) ∧ ∀ (r_12 : Bool), (r_12 = true ↔ (a.getD (↑v_7 : Int).toNat (dflt 10)).cycle = (b.getD (↑v_7 : Int).toNat (dflt 10)).cycle ∧ (a.getD (↑v_7 : Int).toNat (dflt 10)).offset = (b.getD (↑v_7 : Int).toNat (dflt 10)).offset ∧ (a.getD (↑v_7 : Int).toNat (dflt 10)).splits = (b.getD (↑v_7 : Int).toNat (dflt 10)).splits) → br (!r_12) ((k (.bool false) [] [])) (∀ (n14 : Int), (n14 = IntKind.i64.wrap ((↑v_7 : Int) + (1 : Int))) → (inK .i64 n14) → ∃ (v' : Nat), (a = a) ∧ (b = b) ∧ (n14 = (↑v' : Int)) ∧ ((v' ≤ a.length) ∧ (a.length = b.length) ∧ (eqP a b v')) ∧ (a.length - v' < a.length - v_7))) ((k (.bool true) [] []))) := by
 intro n1 q1 ⟨l1, u1⟩ n4 q4 ⟨l4, u4⟩
 refine br_intro (fun c1 => ?_) (fun c1 => ?_)
 ·
  simp at c1
  refine hk false ⟨fun e => (by cases e), fun e => ?_⟩
  subst e
  exact absurd (by omega) c1
 simp at c1
 refine ⟨?_, ?_⟩
 ·
  refine ⟨Int.toNat (0 : Int), rfl, rfl, by show (0 : Int) = (↑(Int.toNat (0 : Int)) : Int); omega, by show Int.toNat (0 : Int) ≤ a.length; omega, by show a.length = b.length; omega, ?_⟩
  exact eqp_0 _ _
 intro v_7 h2 n9 q9 ⟨l9, u9⟩
 refine brd (fun c3 => ?_) (fun c3 => ?_)
 ·
  refine ⟨by first | omega | (dsimp only; omega), by first | omega | (dsimp only; omega), by first | omega | (dsimp only; omega), by first | omega | (dsimp only; omega), ?_⟩
  intro r_12 h4
  refine br_intro (fun c5 => ?_) (fun c5 => ?_)
  ·
   simp at c5
   refine hk false ⟨fun e => (by cases e), fun e => ?_⟩
   subst e
   rw [h4.2 ⟨rfl, rfl, rfl⟩] at c5
   cases c5
  simp at c5
  intro n14 q14
  first | (rw [wrI64] at q14; rotate_left 1; · omega) | rw [IntKind.wrap_i64] at q14
  intro ⟨l14, u14⟩
  refine ⟨n14.toNat, rfl, rfl, by show n14 = (↑n14.toNat : Int); omega, ?_⟩
  refine ⟨?_, ?_⟩
  ·
   refine ⟨by show n14.toNat ≤ a.length; omega, by show a.length = b.length; omega, ?_⟩
   rw [show n14.toNat = v_7 + 1 by omega]
   rw [Int.toNat_natCast] at h4
   obtain ⟨x1, x2, x3⟩ := h4.1 c5
   exact eqp_step (dflt 10) h2.2.2 (by omega) (by omega) (plan_eq x1 x2 x3)
  exact by show a.length - n14.toNat < a.length - v_7; omega
 exact hk true ⟨fun _ => eqp_all h2.2.2 (by omega) (by omega), fun _ => rfl⟩
theorem samePl_ok : Holds Try.prog 25 samePlS := by
  refine fn_sound (env := mkEnv G3b) (tab_ok G3b_ok) Try.func25 Try.call25 fun args k h => ?_
  match args, h with
  | [.sl 10 a, .sl 10 b], h => exact ⟨by kernel_rfl, samePlLoops a b, fun _ _ => none, .cast (by kernel_rfl) (samePl_vc a b k h)⟩
set_option maxHeartbeats 2000000 in
theorem great_vc (l : List Plan) (k : AV → List (Option Blk) → List Blk → Prop) (hk : ∀ (r : Bool), (r = false → PlOk l) → k (.bool r) [] []) : ∀ (n1 : Int), (n1 = 0) → (inK .i64 n1) → ∀ (n4 : Int), (n4 = 0) → ∀ (n6 : Int), (n6 = 0) → ∀ (n8 : Int), (n8 = 0) → ∀ (n10 : Int), (n10 = 0) → ∀ (n12 : Int), (n12 = (↑l.length : Int)) → br (bif bif bif bif bif decide (n1 > 40) then true else decide (n4 > 40) then true else decide (n6 > 40) then true else decide (n8 > 40) then true else decide (n10 > 60) then true else decide (n12 > 40)) ((k (.bool true) [] [])) ((∃ (v : Nat), ((0 : Int) = (0 : Int)) ∧ ((0 : Int) = (0 : Int)) ∧ ((0 : Int) = (0 : Int)) ∧ ((0 : Int) = (0 : Int)) ∧ ((0 : Int) = (0 : Int)) ∧ ((0 : Int) = (0 : Int)) ∧ ((0 : Int) = (0 : Int)) ∧ (l = l) ∧ (l.length ≤ 40) ∧ (v = 0)) ∧ ∀ (v_14 : Nat), (l.length ≤ 40 ∧ v_14 = 0) → ∀ (n15 : Int), (n15 = 0) → (inK .i64 n15) → br (decide (0 < n15)) ((False)) ((∃ (v : Nat), ((0 : Int) = (↑v : Int)) ∧ ((0 : Int) = (0 : Int)) ∧ ((0 : Int) = (0 : Int)) ∧ ((0 : Int) = (0 : Int)) ∧ ((0 : Int) = (0 : Int)) ∧ ((0 : Int) = (0 : Int)) ∧ ((0 : Int) = (0 : Int)) ∧ (l = l) ∧ (v ≤ l.length) ∧ (l.length ≤ 40) ∧ ∀ (j_18 : Nat), (j_18 < v) → ((l.getD j_18 (dflt 10)).splits.length ≤ 40)) ∧ ∀ (v_20 : Nat), (v_20 ≤ l.length ∧ l.length ≤ 40 ∧ ∀ (j : Nat), j < v_20 → (l.getD j (dflt 10)).splits.length ≤ 40) → ∀ (n22 : Int), (n22 = (↑l.length : Int)) → (inK .i64 n22) → br (decide ((↑v_20 : Int) < n22)) (((0 : Int) ≤ (↑v_20 : Int)) ∧ ((↑v_20 : Int) < (↑l.length : Int)) ∧ ∀ (n25 : Int), (n25 = (↑(l.getD (↑v_20 : Int).toNat (dflt 10)).splits.length : Int)) → (inK .i64 n25) → br (decide (n25 > 40)) ((k (.bool true) [] [])) (∀ (n28 : Int), (n28 = IntKind.i64.wrap ((↑v_20 : Int) + (1 : Int))) → (inK .i64 n28) → ∃ (v' : Nat), (n28 = (↑v' : Int)) ∧ ((0 : Int) = (0 : Int)) ∧ ((0 : Int) = (0 : Int)) ∧ ((0 : Int) = (0 : Int)) ∧ ((0 : Int) = (0 : Int)) ∧ ((0 : Int) = (0 : Int)) ∧ ((0 : Int) = (0 : Int)) ∧ (l = l) ∧ ((v' ≤ l.length) ∧ (l.length ≤ 40) ∧ ∀ (j_31 : Nat), (j_31 < v') → ((l.getD j_31 (dflt 10)).splits.length ≤ 40)) ∧ (l.length - v' < l.length - v_20))) ((k (.bool false) [] [])))) := by
 intro n1 q1 ⟨l1, u1⟩ n4 q4 n6 q6 n8 q8 n10 q10 n12 q12
 refine br_intro (fun c1 => ?_) (fun c1 => ?_)
 ·
  simp at c1
  exact hk _ (fun e => by cases e)
 simp at c1
 refine ⟨?_, ?_⟩
 ·
  refine ⟨(0 : Nat), rfl, rfl, rfl, rfl, rfl, rfl, rfl, rfl, by show l.length ≤ (40 : Nat); omega, ?_⟩
  exact rfl
 intro v_14 ⟨a2, b2⟩ n15 q15 ⟨l15, u15⟩
 refine brd (fun c3 => ?_) (fun c3 => ?_)
 ·
  exfalso; omega
 refine ⟨?_, ?_⟩
 ·
  refine ⟨Int.toNat (0 : Int), by show (0 : Int) = (↑(Int.toNat (0 : Int)) : Int); omega, rfl, rfl, rfl, rfl, rfl, rfl, rfl, by show Int.toNat (0 : Int) ≤ l.length; omega, by show l.length ≤ (40 : Nat); assumption, ?_⟩
  intro j_18 h4
  exact by show (l.getD j_18 (dflt (10 : Nat))).splits.length ≤ (40 : Nat); omega
 intro v_20 h5 n22 q22 ⟨l22, u22⟩
 refine brd (fun c6 => ?_) (fun c6 => ?_)
 ·
  refine ⟨by first | omega | (dsimp only; omega), by first | omega | (dsimp only; omega), ?_⟩
  intro n25 q25 ⟨l25, u25⟩
  refine brd (fun c7 => ?_) (fun c7 => ?_)
  ·
   exact hk _ (fun e => by cases e)
  intro n28 q28
  first | (rw [wrI64] at q28; rotate_left 1; · omega) | rw [IntKind.wrap_i64] at q28
  intro ⟨l28, u28⟩
  refine ⟨n28.toNat, by show n28 = (↑n28.toNat : Int); omega, rfl, rfl, rfl, rfl, rfl, rfl, rfl, ?_⟩
  refine ⟨?_, ?_⟩
  ·
   refine ⟨by show n28.toNat ≤ l.length; omega, by show l.length ≤ (40 : Nat); assumption, ?_⟩
   intro j_31 h8
   have H := h5
   rcases Nat.lt_or_ge j_31 v_20 with c | c
   ·
    exact H.2.2 _ c
   rw [show j_31 = v_20 by omega]; first | omega | (simp only [Int.toNat_natCast] at *; omega)
  exact by show l.length - n28.toNat < l.length - v_20; omega
 have H := h5
 exact hk _ (fun _ => plOk_of (by omega) (fun j hj => H.2.2 j (by omega)))
theorem great_ok : Holds Try.prog 32 greatS := by
  refine fn_sound (env := mkEnv G3a) (tab_ok G3a_ok) Try.func32 Try.call32 fun args k h => ?_
  match args, h with
  | [.agg [.int .i64 0, .nilsl, .nilsl, .nilsl, .nilsl, .nilsl, .int .i64 0, .int .i64 0, .int .i64 0, .int .i64 0, .int .i64 0, .sl 10 l]], h => exact ⟨by kernel_rfl, greatLoops l, fun _ _ => none, .cast (by kernel_rfl) (great_vc l k h)⟩
theorem G3d_ok : TabOk Try.prog G3d := ⟨great_ok, trivial⟩
set_option maxHeartbeats 2000000 in
theorem large_vc (l : List Plan) (k : AV → List (Option Blk) → List Blk → Prop) (hk : ∀ (r : Bool), (r = false → PlOk l) → k (.bool r) [] []) : ∀ (r_1 : Bool), ((r_1 = false) → (PlOk l)) → (k (.bool r_1) [] []) := by
 intro r_1 h1
 exact hk _ (by assumption)
theorem large_ok : Holds Try.prog 10 largeS := by
  refine fn_sound (env := mkEnv G3d) (tab_ok G3d_ok) Try.func10 Try.call10 fun args k h => ?_
  match args, h with
  | [.sl 10 l], h => exact ⟨by kernel_rfl, fun _ _ => none, fun _ _ => none, .cast (by kernel_rfl) (large_vc l k h)⟩
theorem G3e_ok : TabOk Try.prog G3e := ⟨large_ok, trivial⟩
set_option maxHeartbeats 2000000 in
theorem much_vc (d : List UInt8) (l : List Plan) (k : AV → List (Option Blk) → List Blk → Prop) (hk : ∀ (r : Bool), (r = false → d.length ≤ 5000) → k (.bool r) [] []) : ∀ (n1 : Int), (n1 = (↑d.length : Int)) → (inK .i64 n1) → br (decide (n1 > 5000)) ((true = true) ∧ (k (.bool true) [] [])) (∀ (r_4 : Bool), ((r_4 = false) → (PlOk l)) → (k (.bool (bif false then true else r_4)) [] [])) := by
 intro n1 q1 ⟨l1, u1⟩
 refine brd (fun c1 => ?_) (fun c1 => ?_)
 ·
  refine ⟨by with_reducible rfl, ?_⟩
  exact hk _ (fun e => by cases e)
 intro r_4 h2
 exact hk _ (fun _ => by omega)
theorem much_ok : Holds Try.prog 27 muchS := by
  refine fn_sound (env := mkEnv G3e) (tab_ok G3e_ok) Try.func27 Try.call27 fun args k h => ?_
  match args, h with
  | [.agg [.sl 0 d], .sl 10 l], h => exact ⟨by kernel_rfl, fun _ _ => none, fun _ _ => none, .cast (by kernel_rfl) (much_vc d l k h)⟩
theorem formatT_ok : Holds Try.prog 15 formatT := format_up format_ok
theorem zSlotT_ok : Holds Try.prog 21 rSlotT := rSlot_up zSlot_ok
theorem zReadT_ok : Holds Try.prog 17 rReadT := rRead_up zRead_ok
end Go.Proofs.Ytcdflgfhkohldaa
