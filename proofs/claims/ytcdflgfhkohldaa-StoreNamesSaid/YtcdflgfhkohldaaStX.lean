import Derived.Test.YtcdflgfhkohldaaStW
namespace Go.Proofs.Ytcdflgfhkohldaa
open Go Go.Eng Go.Rw Go.Lk Go.Proofs
open Go.Bk hiding take_step drop_step set_mid
open Go.St hiding take_step
set_option linter.unusedVariables false
set_option maxHeartbeats 2000000 in
theorem format_vc (n : Int) (k : AV → List (Option Blk) → List Blk → Prop) (hk : (∀ (e : Int), e = fmtE n → e ≠ (0 : Int) → (0 : Int) ≤ e ∧ e ≤ (190 : Int) → k (AV.tup [AV.agg [AV.nilsl], AV.int IntKind.i64 e]) [] []) ∧ (fmtE n = (0 : Int) → ∀ (ys : List UInt8) (q : Nat), ys = fmtO n → ys.length = q → k (AV.tup [AV.agg [AV.row (0 : Nat) (0 : Nat) (0 : Nat) q], AV.int IntKind.i64 (0 : Int)]) [] [Blk.row (0 : Nat) ys])) :
 (
 (newE n ≠ (0 : Int)) →
 (k (AV.tup [AV.agg [AV.nilsl], AV.int IntKind.i64 (180 : Int)]) [] [])) ∧
 ((newE n = (0 : Int)) →
 ∀ (ys_1 : List UInt8),
 ∀ (q_2 : Nat),
 (ys_1 = newO n) →
 (ys_1.length = q_2) →
 br (bif (0 : Int) == (0 : Int) then n == (1 : Int) else false)
 ((k (AV.tup [AV.agg [AV.nilsl], AV.int IntKind.i64 (190 : Int)]) [] []))
 ((k (AV.tup [AV.agg [AV.row (0 : Nat) (0 : Nat) (0 : Nat) q_2], AV.int IntKind.i64 (0 : Int)]) [] [Blk.row (0 : Nat) ys_1]))) := by
 refine ⟨?_, ?_⟩
 ·
  intro h1
  have hn : ¬ (1 ≤ n ∧ n ≤ 64) := fun c => h1 (by unfold newE; rw [if_pos c])
  exact hk.1 _ (fmt_180 hn) (by decide) (by omega)
 intro h2
 intro ys_1
 intro q_2
 intro h3
 intro h4
 refine br_intro (fun c5 => ?_) (fun c5 => ?_)
 ·
  simp at c5
  have hn : 1 ≤ n ∧ n ≤ 64 := by
   unfold newE at h2
   split at h2
   ·
    assumption
   ·
    cases h2
  exact hk.1 _ (fmt_190 hn c5) (by decide) (by omega)
 ·
  simp at c5
  have hn : 1 ≤ n ∧ n ≤ 64 := by
   unfold newE at h2
   split at h2
   ·
    assumption
   ·
    cases h2
  have z := fmt_0 hn c5
  exact hk.2 z _ _ (by unfold fmtO; rw [if_pos z, h3]; unfold newO; rw [if_pos hn]) h4

theorem format_ok : Holds Try.prog 15 formatS := by
  refine fn_sound (env := mkEnv G1) (tab_ok G1_ok) Try.func15 Try.call15 fun args k h => ?_
  match args, h with
  | [.int .i64 n], h => exact ⟨by kernel_rfl, fun _ _ => none, fun _ _ => none, .cast (by kernel_rfl) (format_vc n k h)⟩
set_option maxHeartbeats 2000000 in
theorem zSlot_vc (d : List UInt8) (i : Int) (k : AV → List (Option Blk) → List Blk → Prop) (hk : (∀ (e : Int), e = askD d → e ≠ (0 : Int) → k (AV.tup [AV.agg [AV.int IntKind.i64 (0 : Int), AV.int IntKind.u8 (0 : Int), AV.nilsl], AV.int IntKind.i64 e]) [] []) ∧ (D2 d → ¬(i = (0 : Int) ∨ i = (1 : Int)) → k (AV.tup [AV.agg [AV.int IntKind.i64 (0 : Int), AV.int IntKind.u8 (0 : Int), AV.nilsl], AV.int IntKind.i64 (2 : Int)]) [] []) ∧ (D2 d → i = (0 : Int) ∨ i = (1 : Int) → KF (slotL d i) false (0 : Int) (0 : Int) [] → k (AV.tup [AV.agg [AV.int IntKind.i64 (0 : Int), AV.int IntKind.u8 (0 : Int), AV.nilsl], AV.int IntKind.i64 (8 : Int)]) [] []) ∧ (D2 d → i = (0 : Int) ∨ i = (1 : Int) → ∀ (g m : Int) (ps : List Plan), KF (slotL d i) true g m ps → k (AV.tup [AV.agg [AV.int IntKind.i64 g, AV.int IntKind.u8 m, AV.sl (10 : Nat) ps], AV.int IntKind.i64 (0 : Int)]) [] [])) :
 (
 ∀ (e_1 : Int),
 (e_1 = askD d) →
 (e_1 ≠ (0 : Int)) →
 ((0 : Int) ≤ e_1 ∧ e_1 ≤ (190 : Int)) →
 br (e_1 != (0 : Int))
  ((k (AV.tup [AV.agg [AV.int IntKind.i64 (0 : Int), AV.int IntKind.u8 (0 : Int), AV.nilsl], AV.int IntKind.i64 e_1]) [] []))
  (br (bif i != (0 : Int) then i != (1 : Int) else false)
   ((k (AV.tup [AV.agg [AV.int IntKind.i64 (0 : Int), AV.int IntKind.u8 (0 : Int), AV.nilsl], AV.int IntKind.i64 (2 : Int)]) [] []))
   ((
    ((0 : Int) ≤ i) ∧
    (i ≤ (1 : Int))) ∧
   (
    (i = (0 : Int)) →
    ((0 : Int) ≤ (0 : Int)) ∧
    ((0 : Int) < (↑(2 : Nat) : Int)) ∧
    (False)) ∧
   ((i = (1 : Int)) →
   ((0 : Int) ≤ (1 : Int)) ∧
   ((1 : Int) < (↑(2 : Nat) : Int)) ∧
   (False))))) ∧
 ((D2 d) →
 ∀ (h0_5 : Bool),
 ∀ (g0_6 : Int),
 ∀ (m0_7 : Int),
 ∀ (p0_8 : List Plan),
 ∀ (b0_9 : List (List UInt8)),
 ∀ (h1_10 : Bool),
 ∀ (g1_11 : Int),
 ∀ (m1_12 : Int),
 ∀ (p1_13 : List Plan),
 ∀ (b1_14 : List (List UInt8)),
 (Sl2 d h0_5 g0_6 m0_7 p0_8 b0_9 h1_10 g1_11 m1_12 p1_13 b1_14) →
 (((0 : Int) ≤ g0_6 ∧ g0_6 ≤ (4611686018427387903 : Int)) ∧ (0 : Int) ≤ m0_7 ∧ m0_7 ≤ (3 : Int)) →
 (((0 : Int) ≤ g1_11 ∧ g1_11 ≤ (4611686018427387903 : Int)) ∧ (0 : Int) ≤ m1_12 ∧ m1_12 ≤ (3 : Int)) →
 (b0_9.length = half d ∧ b1_14.length = half d) →
 br (bif i != (0 : Int) then i != (1 : Int) else false)
 ((k (AV.tup [AV.agg [AV.int IntKind.i64 (0 : Int), AV.int IntKind.u8 (0 : Int), AV.nilsl], AV.int IntKind.i64 (2 : Int)]) [] []))
 ((
  ((0 : Int) ≤ i) ∧
  (i ≤ (1 : Int))) ∧
  (
  (i = (0 : Int)) →
  ((0 : Int) ≤ (0 : Int)) ∧
  ((0 : Int) < (↑(2 : Nat) : Int)) ∧
  br (!h0_5)
   ((k (AV.tup [AV.agg [AV.int IntKind.i64 (0 : Int), AV.int IntKind.u8 (0 : Int), AV.nilsl], AV.int IntKind.i64 (8 : Int)]) [] []))
   ((
    ((0 : Int) ≤ i) ∧
    (i ≤ (1 : Int))) ∧
   (
    (i = (0 : Int)) →
    ((0 : Int) ≤ (0 : Int)) ∧
    ((0 : Int) < (↑(2 : Nat) : Int)) ∧
    (k (AV.tup [AV.agg [AV.int IntKind.i64 g0_6, AV.int IntKind.u8 m0_7, AV.sl (10 : Nat) p0_8], AV.int IntKind.i64 (0 : Int)]) [] [])) ∧
   ((i = (1 : Int)) →
   ((0 : Int) ≤ (1 : Int)) ∧
   ((1 : Int) < (↑(2 : Nat) : Int)) ∧
   (k (AV.tup [AV.agg [AV.int IntKind.i64 g1_11, AV.int IntKind.u8 m1_12, AV.sl (10 : Nat) p1_13], AV.int IntKind.i64 (0 : Int)]) [] [])))) ∧
  ((i = (1 : Int)) →
  ((0 : Int) ≤ (1 : Int)) ∧
  ((1 : Int) < (↑(2 : Nat) : Int)) ∧
  br (!h1_10)
  ((k (AV.tup [AV.agg [AV.int IntKind.i64 (0 : Int), AV.int IntKind.u8 (0 : Int), AV.nilsl], AV.int IntKind.i64 (8 : Int)]) [] []))
  ((
   ((0 : Int) ≤ i) ∧
   (i ≤ (1 : Int))) ∧
   (
   (i = (0 : Int)) →
   ((0 : Int) ≤ (0 : Int)) ∧
   ((0 : Int) < (↑(2 : Nat) : Int)) ∧
   (k (AV.tup [AV.agg [AV.int IntKind.i64 g0_6, AV.int IntKind.u8 m0_7, AV.sl (10 : Nat) p0_8], AV.int IntKind.i64 (0 : Int)]) [] [])) ∧
   ((i = (1 : Int)) →
   ((0 : Int) ≤ (1 : Int)) ∧
   ((1 : Int) < (↑(2 : Nat) : Int)) ∧
   (k (AV.tup [AV.agg [AV.int IntKind.i64 g1_11, AV.int IntKind.u8 m1_12, AV.sl (10 : Nat) p1_13], AV.int IntKind.i64 (0 : Int)]) [] [])))))) := by
 refine ⟨?_, ?_⟩
 ·
  intro e_1
  intro h1
  intro h2
  intro ⟨a3, b3⟩
  refine br_intro (fun c4 => ?_) (fun c4 => ?_)
  ·
   simp at c4
   exact hk.1 _ h1 h2
  ·
   simp at c4
   exfalso; omega
 intro h5
 intro h0_5
 intro g0_6
 intro m0_7
 intro p0_8
 intro b0_9
 intro h1_10
 intro g1_11
 intro m1_12
 intro p1_13
 intro b1_14
 intro h6
 intro h7
 intro h8
 intro ⟨a9, b9⟩
 refine br_intro (fun c10 => ?_) (fun c10 => ?_)
 ·
  simp at c10
  exact hk.2.1 h5 (by omega)
 ·
  simp at c10
  refine ⟨by first | omega | (dsimp only; omega), ?_⟩
  refine ⟨?_, ?_⟩
  ·
   intro h11
   refine ⟨by first | omega | (dsimp only; omega), ?_⟩
   refine ⟨by first | omega | (dsimp only; omega), ?_⟩
   refine br_intro (fun c12 => ?_) (fun c12 => ?_)
   ·
    simp at c12
    exact hk.2.2.1 h5 (.inl h11) (h6.a.no c12 h11)
   ·
    simp at c12
    refine ⟨by first | omega | (dsimp only; omega), ?_⟩
    refine ⟨?_, ?_⟩
    ·
     intro h13
     refine ⟨by first | omega | (dsimp only; omega), ?_⟩
     refine ⟨by first | omega | (dsimp only; omega), ?_⟩
     exact hk.2.2.2 h5 (.inl h13) _ _ _ (h6.a.yes c12 h13)
    intro h14
    refine ⟨by first | omega | (dsimp only; omega), ?_⟩
    refine ⟨by first | omega | (dsimp only; omega), ?_⟩
    exfalso; omega
  intro h15
  refine ⟨by first | omega | (dsimp only; omega), ?_⟩
  refine ⟨by first | omega | (dsimp only; omega), ?_⟩
  refine br_intro (fun c16 => ?_) (fun c16 => ?_)
  ·
   simp at c16
   exact hk.2.2.1 h5 (.inr h15) (h6.b.no c16 h15)
  ·
   simp at c16
   refine ⟨by first | omega | (dsimp only; omega), ?_⟩
   refine ⟨?_, ?_⟩
   ·
    intro h17
    refine ⟨by first | omega | (dsimp only; omega), ?_⟩
    refine ⟨by first | omega | (dsimp only; omega), ?_⟩
    exfalso; omega
   intro h18
   refine ⟨by first | omega | (dsimp only; omega), ?_⟩
   refine ⟨by first | omega | (dsimp only; omega), ?_⟩
   exact hk.2.2.2 h5 (.inr h18) _ _ _ (h6.b.yes c16 h18)

theorem zSlot_ok : Holds Try.prog 21 rSlotS := by
  refine fn_sound (env := { mkEnv G1 with mode := md [(7000, 2), (9000, 2)] }) (tab_ok G1_ok) Try.func21 Try.call21 fun args k h => ?_
  match args, h with
  | [.agg [.sl 0 d], .int .i64 i], h => exact ⟨by kernel_rfl, fun _ _ => none, fun _ _ => none, .cast (by kernel_rfl) (zSlot_vc d i k h)⟩
set_option maxHeartbeats 2000000 in
theorem zRead_vc (d : List UInt8) (k : AV → List (Option Blk) → List Blk → Prop) (hk : (∀ (e : Int), e = askD d → e ≠ (0 : Int) → k (AV.tup [AV.agg [AV.int IntKind.i64 (0 : Int), AV.int IntKind.u8 (0 : Int), AV.nilsl], AV.int IntKind.i64 e]) [] []) ∧ (D2 d → Cd d (-1 : Int) (0 : Int) (0 : Int) [] → k (AV.tup [AV.agg [AV.int IntKind.i64 (0 : Int), AV.int IntKind.u8 (0 : Int), AV.nilsl], AV.int IntKind.i64 (190 : Int)]) [] []) ∧ (D2 d → ∀ (c g m : Int) (ps : List Plan), Cd d c g m ps → c = (0 : Int) ∨ c = (1 : Int) → k (AV.tup [AV.agg [AV.int IntKind.i64 g, AV.int IntKind.u8 m, AV.sl (10 : Nat) ps], AV.int IntKind.i64 (0 : Int)]) [] [])) :
 (
 ∀ (e_1 : Int),
 (e_1 = askD d) →
 (e_1 ≠ (0 : Int)) →
 ((0 : Int) ≤ e_1 ∧ e_1 ≤ (190 : Int)) →
 br (e_1 != (0 : Int))
  ((k (AV.tup [AV.agg [AV.int IntKind.i64 (0 : Int), AV.int IntKind.u8 (0 : Int), AV.nilsl], AV.int IntKind.i64 e_1]) [] []))
  ((False))) ∧
 ((D2 d) →
 ∀ (h0_5 : Bool),
 ∀ (g0_6 : Int),
 ∀ (m0_7 : Int),
 ∀ (p0_8 : List Plan),
 ∀ (b0_9 : List (List UInt8)),
 ∀ (h1_10 : Bool),
 ∀ (g1_11 : Int),
 ∀ (m1_12 : Int),
 ∀ (p1_13 : List Plan),
 ∀ (b1_14 : List (List UInt8)),
 (Sl2 d h0_5 g0_6 m0_7 p0_8 b0_9 h1_10 g1_11 m1_12 p1_13 b1_14) →
 (((0 : Int) ≤ g0_6 ∧ g0_6 ≤ (4611686018427387903 : Int)) ∧ (0 : Int) ≤ m0_7 ∧ m0_7 ≤ (3 : Int)) →
 (((0 : Int) ≤ g1_11 ∧ g1_11 ≤ (4611686018427387903 : Int)) ∧ (0 : Int) ≤ m1_12 ∧ m1_12 ≤ (3 : Int)) →
 (b0_9.length = half d ∧ b1_14.length = half d) →
 ∀ (c_19 : Int),
 (c_19 = cnt h0_5 g0_6 h1_10 g1_11) →
 ((-1 : Int) ≤ c_19 ∧ c_19 ≤ (1 : Int)) →
 br (decide (c_19 < (0 : Int)))
 ((k (AV.tup [AV.agg [AV.int IntKind.i64 (0 : Int), AV.int IntKind.u8 (0 : Int), AV.nilsl], AV.int IntKind.i64 (190 : Int)]) [] []))
 ((
  ((0 : Int) ≤ c_19) ∧
  (c_19 ≤ (1 : Int))) ∧
  (
  (c_19 = (0 : Int)) →
  ((0 : Int) ≤ (0 : Int)) ∧
  ((0 : Int) < (↑(2 : Nat) : Int)) ∧
  (k (AV.tup [AV.agg [AV.int IntKind.i64 g0_6, AV.int IntKind.u8 m0_7, AV.sl (10 : Nat) p0_8], AV.int IntKind.i64 (0 : Int)]) [] [])) ∧
  ((c_19 = (1 : Int)) →
  ((0 : Int) ≤ (1 : Int)) ∧
  ((1 : Int) < (↑(2 : Nat) : Int)) ∧
  (k (AV.tup [AV.agg [AV.int IntKind.i64 g1_11, AV.int IntKind.u8 m1_12, AV.sl (10 : Nat) p1_13], AV.int IntKind.i64 (0 : Int)]) [] [])))) := by
 refine ⟨?_, ?_⟩
 ·
  intro e_1
  intro h1
  intro h2
  intro ⟨a3, b3⟩
  refine br_intro (fun c4 => ?_) (fun c4 => ?_)
  ·
   simp at c4
   exact hk.1 _ h1 h2
  ·
   simp at c4
   exfalso; omega
 intro h5
 intro h0_5
 intro g0_6
 intro m0_7
 intro p0_8
 intro b0_9
 intro h1_10
 intro g1_11
 intro m1_12
 intro p1_13
 intro b1_14
 intro h6
 intro h7
 intro h8
 intro ⟨a9, b9⟩
 intro c_19
 intro h10
 intro ⟨a11, b11⟩
 refine brd (fun c12 => ?_) (fun c12 => ?_)
 ·
  exact hk.2.1 h5 (h6.cd2 h10 (by omega))
 ·
  refine ⟨by first | omega | (dsimp only; omega), ?_⟩
  refine ⟨?_, ?_⟩
  ·
   intro h13
   refine ⟨by first | omega | (dsimp only; omega), ?_⟩
   refine ⟨by first | omega | (dsimp only; omega), ?_⟩
   exact hk.2.2 h5 _ _ _ _ (h6.cd0 h10 h13) (.inl rfl)
  intro h14
  refine ⟨by first | omega | (dsimp only; omega), ?_⟩
  refine ⟨by first | omega | (dsimp only; omega), ?_⟩
  exact hk.2.2 h5 _ _ _ _ (h6.cd1 h10 h14) (.inr rfl)

theorem zRead_ok : Holds Try.prog 17 rReadS := by
  refine fn_sound (env := { mkEnv G1 with mode := md [(8000, 2)] }) (tab_ok G1_ok) Try.func17 Try.call17 fun args k h => ?_
  match args, h with
  | [.agg [.sl 0 d]], h => exact ⟨by kernel_rfl, fun _ _ => none, fun _ _ => none, .cast (by kernel_rfl) (zRead_vc d k h)⟩
set_option maxHeartbeats 2000000 in
theorem putz_vc (d : List UInt8) (m : Int) (l : List Plan) (hm : (0 : Int) ≤ m ∧ m ≤ (255 : Int)) (k : AV → List (Option Blk) → List Blk → Prop) (hk : (∀ (e : Int), PtR d m l e [] → e ≠ (0 : Int) → k (AV.tup [AV.nilsl, AV.int IntKind.i64 e]) [] []) ∧ ∀ (ps : List Put) (n : Nat), PtR d m l (0 : Int) ps → ps.length = n → k (AV.tup [AV.row (9 : Nat) (0 : Nat) (0 : Nat) n, AV.int IntKind.i64 (0 : Int)]) [] [Blk.row (9 : Nat) ps]) :
 (
 ∀ (e_1 : Int),
 (e_1 = askD d) →
 (e_1 ≠ (0 : Int)) →
 ((0 : Int) ≤ e_1 ∧ e_1 ≤ (190 : Int)) →
 br (e_1 != (0 : Int))
  ((k (AV.tup [AV.nilsl, AV.int IntKind.i64 e_1]) [] []))
  (br (decide (m > (3 : Int)))
   ((k (AV.tup [AV.nilsl, AV.int IntKind.i64 (2 : Int)]) [] []))
   (((0 : Int) ≤ (0 : Int)) ∧
   ((0 : Int) < (↑(2 : Nat) : Int)) ∧
   (False)))) ∧
 ((D2 d) →
 ∀ (h0_5 : Bool),
 ∀ (g0_6 : Int),
 ∀ (m0_7 : Int),
 ∀ (p0_8 : List Plan),
 ∀ (b0_9 : List (List UInt8)),
 ∀ (h1_10 : Bool),
 ∀ (g1_11 : Int),
 ∀ (m1_12 : Int),
 ∀ (p1_13 : List Plan),
 ∀ (b1_14 : List (List UInt8)),
 (Sl2 d h0_5 g0_6 m0_7 p0_8 b0_9 h1_10 g1_11 m1_12 p1_13 b1_14) →
 (((0 : Int) ≤ g0_6 ∧ g0_6 ≤ (4611686018427387903 : Int)) ∧ (0 : Int) ≤ m0_7 ∧ m0_7 ≤ (3 : Int)) →
 (((0 : Int) ≤ g1_11 ∧ g1_11 ≤ (4611686018427387903 : Int)) ∧ (0 : Int) ≤ m1_12 ∧ m1_12 ≤ (3 : Int)) →
 (b0_9.length = half d ∧ b1_14.length = half d) →
 br (decide (m > (3 : Int)))
 ((k (AV.tup [AV.nilsl, AV.int IntKind.i64 (2 : Int)]) [] []))
 (((0 : Int) ≤ (0 : Int)) ∧
  ((0 : Int) < (↑(2 : Nat) : Int)) ∧
  ∀ (n19 : Int),
  (n19 = (↑b0_9.length : Int)) →
  ((-9223372036854775808 : Int) ≤ n19 ∧ n19 ≤ (9223372036854775807 : Int)) →
  (
  (
   ((-9223372036854775808 : Int) ≤ (1 : Int)) ∧
   ((1 : Int) ≤ (9223372036854775807 : Int))) ∧
  ((0 : Int) ≤ m) ∧
  (m ≤ (255 : Int))) ∧
  ∀ (e_22 : Int),
  ∀ (bl_23 : List (List UInt8)),
  (e_22 = blkE (1 : Int) m l n19) →
  (bl_23 = blkO (1 : Int) m l n19) →
  ((0 : Int) ≤ e_22 ∧ e_22 ≤ (190 : Int)) →
  ((e_22 = (0 : Int)) →
  (bl_23.length = n19.toNat)) →
  br (e_22 != (0 : Int))
  ((k (AV.tup [AV.nilsl, AV.int IntKind.i64 e_22]) [] []))
  (∀ (c_28 : Int),
   (c_28 = cnt h0_5 g0_6 h1_10 g1_11) →
   ((-1 : Int) ≤ c_28 ∧ c_28 ≤ (1 : Int)) →
   br (c_28 == (0 : Int))
   (br (decide (c_28 ≥ (0 : Int)))
    ((
     ((0 : Int) ≤ c_28) ∧
     (c_28 ≤ (1 : Int))) ∧
     (
     (c_28 = (0 : Int)) →
     ((0 : Int) ≤ (0 : Int)) ∧
     ((0 : Int) < (↑(2 : Nat) : Int)) ∧
     ∀ (n32 : Int),
     (n32 = g0_6) →
     ((-9223372036854775808 : Int) ≤ n32 ∧ n32 ≤ (9223372036854775807 : Int)) →
     (
      ((0 : Int) ≤ (1 : Int)) ∧
      ((1 : Int) < (↑(2 : Nat) : Int)) ∧
      (
      (B64 b1_14) ∧
      ((0 : Int) ≤ n32) ∧
      (n32 ≤ (4611686018427387903 : Int))) ∧
      ∀ (r_35 : Int),
      (Nx n32 b1_14 r_35) →
      ((1 : Int) ≤ r_35 ∧ r_35 ≤ (4611686018427387936 : Int)) →
      ∃ (v : Int × Int),
      (n19 = (↑(half d) : Int)) ∧
      ((1 : Int) = v.snd) ∧
      (r_35 = v.fst) ∧
      (m = m) ∧
      (l = l) ∧
      (
      ((1 : Nat) ≤ half d) ∧
      (half d ≤ (32 : Nat))) ∧
      (
      ((0 : Int) ≤ m) ∧
      (m ≤ (3 : Int))) ∧
      (
      ((1 : Int) ≤ v.fst) ∧
      (v.fst ≤ (4611686018427387936 : Int))) ∧
      (
      ((0 : Int) ≤ v.snd) ∧
      (v.snd ≤ (1 : Int))) ∧
      (PQ d m l v.fst v.snd)) ∧
     ∀ (v_38 : Int × Int),
     (((1 : Nat) ≤ half d ∧ half d ≤ (32 : Nat)) ∧ ((0 : Int) ≤ m ∧ m ≤ (3 : Int)) ∧ ((1 : Int) ≤ v_38.fst ∧ v_38.fst ≤ (4611686018427387936 : Int)) ∧ ((0 : Int) ≤ v_38.snd ∧ v_38.snd ≤ (1 : Int)) ∧ PQ d m l v_38.fst v_38.snd) →
     ∀ (n40 : Int),
     (n40 = v_38.fst) →
     ((-9223372036854775808 : Int) ≤ n40 ∧ n40 ≤ (9223372036854775807 : Int)) →
     br (decide (n40 ≥ (4611686018427387904 : Int)))
      ((k (AV.tup [AV.nilsl, AV.int IntKind.i64 (190 : Int)]) [] []))
      ((
       (
       ((-9223372036854775808 : Int) ≤ v_38.fst) ∧
       (v_38.fst ≤ (9223372036854775807 : Int))) ∧
       ((0 : Int) ≤ m) ∧
       (m ≤ (255 : Int))) ∧
      ∀ (e_43 : Int),
      ∀ (bl_44 : List (List UInt8)),
      (e_43 = blkE v_38.fst m l (↑(half d) : Int)) →
      (bl_44 = blkO v_38.fst m l (↑(half d) : Int)) →
      ((0 : Int) ≤ e_43 ∧ e_43 ≤ (190 : Int)) →
      ((e_43 = (0 : Int)) →
       (bl_44.length = (↑(half d) : Int).toNat)) →
      ∀ (n49 : Int),
      (n49 = (↑bl_44.length : Int)) →
      ((-9223372036854775808 : Int) ≤ n49 ∧ n49 ≤ (9223372036854775807 : Int)) →
      (
       ∃ (v : Nat × List Put × List (List UInt8) × Int),
       (e_43 = (0 : Int)) ∧
       ((↑(half d) : Int) = (↑(half d) : Int)) ∧
       (v_38.snd = v.snd.snd.snd) ∧
       ((0 : Nat) = (0 : Nat)) ∧
       ((0 : Nat) = v.fst) ∧
       (bl_44 = v.snd.snd.fst) ∧
       (n49 = (↑v.snd.snd.fst.length : Int)) ∧
       ((0 : Int) = (↑v.fst : Int)) ∧
       ([] = v.snd.fst) ∧
       (v.fst ≤ half d) ∧
       (
       ((1 : Nat) ≤ half d) ∧
       (half d ≤ (32 : Nat))) ∧
       (v.snd.snd.fst.length = half d) ∧
       (
       ((0 : Int) ≤ v.snd.snd.snd) ∧
       (v.snd.snd.snd ≤ (1 : Int))) ∧
       (
       ((0 : Int) ≤ slo d v.snd.snd.snd) ∧
       (slo d v.snd.snd.snd ≤ (32 : Int))) ∧
       (v.snd.fst.length = v.fst) ∧
       (BQ d m l v.snd.snd.snd v.snd.snd.fst) ∧
       (PuI (slo d v.snd.snd.snd) v.snd.snd.fst v.fst v.snd.fst)) ∧
      ∀ (v_52 : Nat × List Put × List (List UInt8) × Int),
      (v_52.fst ≤ half d ∧ ((1 : Nat) ≤ half d ∧ half d ≤ (32 : Nat)) ∧ v_52.snd.snd.fst.length = half d ∧ ((0 : Int) ≤ v_52.snd.snd.snd ∧ v_52.snd.snd.snd ≤ (1 : Int)) ∧ ((0 : Int) ≤ slo d v_52.snd.snd.snd ∧ slo d v_52.snd.snd.snd ≤ (32 : Int)) ∧ v_52.snd.fst.length = v_52.fst ∧ BQ d m l v_52.snd.snd.snd v_52.snd.snd.fst ∧ PuI (slo d v_52.snd.snd.snd) v_52.snd.snd.fst v_52.fst v_52.snd.fst) →
      br (decide ((↑v_52.fst : Int) < (↑v_52.snd.snd.fst.length : Int)))
       (((0 : Int) ≤ (↑v_52.fst : Int)) ∧
       ((↑v_52.fst : Int) < (↑v_52.snd.snd.fst.length : Int)) ∧
       ∀ (n54 : Int),
       (n54 = IntKind.i64.wrap (v_52.snd.snd.snd * (↑(half d) : Int))) →
       ((-9223372036854775808 : Int) ≤ n54 ∧ n54 ≤ (9223372036854775807 : Int)) →
       ∀ (n57 : Int),
       (n57 = IntKind.i64.wrap (n54 + (↑v_52.fst : Int))) →
       ((-9223372036854775808 : Int) ≤ n57 ∧ n57 ≤ (9223372036854775807 : Int)) →
       ((v_52.fst + (1 : Nat)) * (32 : Nat) ≤ (140737488355328 : Nat)) ∧
       ∀ (z60 : List Put),
       (z60 = List.take v_52.fst v_52.snd.fst ++ List.take (1 : Nat) (List.drop (0 : Nat) [{ n := n57, data := v_52.snd.snd.fst.getD (↑v_52.fst : Int).toNat (dflt (6 : Nat)) : Put }])) →
       ∀ (n62 : Int),
       (n62 = IntKind.i64.wrap ((↑v_52.fst : Int) + (1 : Int))) →
       ((-9223372036854775808 : Int) ≤ n62 ∧ n62 ≤ (9223372036854775807 : Int)) →
       ∃ (v' : Nat × List Put × List (List UInt8) × Int),
       ((0 : Int) = (0 : Int)) ∧
       ((↑(half d) : Int) = (↑(half d) : Int)) ∧
       (v_52.snd.snd.snd = v'.snd.snd.snd) ∧
       ((0 : Nat) = (0 : Nat)) ∧
       (v_52.fst + (1 : Nat) = v'.fst) ∧
       (v_52.snd.snd.fst = v'.snd.snd.fst) ∧
       ((↑v_52.snd.snd.fst.length : Int) = (↑v'.snd.snd.fst.length : Int)) ∧
       (n62 = (↑v'.fst : Int)) ∧
       (z60 = v'.snd.fst) ∧
       (
        (v'.fst ≤ half d) ∧
        (
        ((1 : Nat) ≤ half d) ∧
        (half d ≤ (32 : Nat))) ∧
        (v'.snd.snd.fst.length = half d) ∧
        (
        ((0 : Int) ≤ v'.snd.snd.snd) ∧
        (v'.snd.snd.snd ≤ (1 : Int))) ∧
        (
        ((0 : Int) ≤ slo d v'.snd.snd.snd) ∧
        (slo d v'.snd.snd.snd ≤ (32 : Int))) ∧
        (v'.snd.fst.length = v'.fst) ∧
        (BQ d m l v'.snd.snd.snd v'.snd.snd.fst) ∧
        (PuI (slo d v'.snd.snd.snd) v'.snd.snd.fst v'.fst v'.snd.fst)) ∧
       (half d - v'.fst < half d - v_52.fst))
       ((k (AV.tup [AV.row (9 : Nat) (0 : Nat) (0 : Nat) v_52.fst, AV.int IntKind.i64 (0 : Int)]) [] [Blk.row (9 : Nat) v_52.snd.fst])))) ∧
     ((c_28 = (1 : Int)) →
     ((0 : Int) ≤ (1 : Int)) ∧
     ((1 : Int) < (↑(2 : Nat) : Int)) ∧
     ∀ (n66 : Int),
     (n66 = g1_11) →
     ((-9223372036854775808 : Int) ≤ n66 ∧ n66 ≤ (9223372036854775807 : Int)) →
     (
     ((0 : Int) ≤ (1 : Int)) ∧
     ((1 : Int) < (↑(2 : Nat) : Int)) ∧
     (
      (B64 b1_14) ∧
      ((0 : Int) ≤ n66) ∧
      (n66 ≤ (4611686018427387903 : Int))) ∧
     ∀ (r_69 : Int),
     (Nx n66 b1_14 r_69) →
     ((1 : Int) ≤ r_69 ∧ r_69 ≤ (4611686018427387936 : Int)) →
     ∃ (v : Int × Int),
     (n19 = (↑(half d) : Int)) ∧
     ((1 : Int) = v.snd) ∧
     (r_69 = v.fst) ∧
     (m = m) ∧
     (l = l) ∧
     (
      ((1 : Nat) ≤ half d) ∧
      (half d ≤ (32 : Nat))) ∧
     (
      ((0 : Int) ≤ m) ∧
      (m ≤ (3 : Int))) ∧
     (
      ((1 : Int) ≤ v.fst) ∧
      (v.fst ≤ (4611686018427387936 : Int))) ∧
     (
      ((0 : Int) ≤ v.snd) ∧
      (v.snd ≤ (1 : Int))) ∧
     (PQ d m l v.fst v.snd)) ∧
     ∀ (v_72 : Int × Int),
     (((1 : Nat) ≤ half d ∧ half d ≤ (32 : Nat)) ∧ ((0 : Int) ≤ m ∧ m ≤ (3 : Int)) ∧ ((1 : Int) ≤ v_72.fst ∧ v_72.fst ≤ (4611686018427387936 : Int)) ∧ ((0 : Int) ≤ v_72.snd ∧ v_72.snd ≤ (1 : Int)) ∧ PQ d m l v_72.fst v_72.snd) →
     ∀ (n74 : Int),
     (n74 = v_72.fst) →
     ((-9223372036854775808 : Int) ≤ n74 ∧ n74 ≤ (9223372036854775807 : Int)) →
     br (decide (n74 ≥ (4611686018427387904 : Int)))
     ((k (AV.tup [AV.nilsl, AV.int IntKind.i64 (190 : Int)]) [] []))
     ((
      (
       ((-9223372036854775808 : Int) ≤ v_72.fst) ∧
       (v_72.fst ≤ (9223372036854775807 : Int))) ∧
      ((0 : Int) ≤ m) ∧
      (m ≤ (255 : Int))) ∧
      ∀ (e_77 : Int),
      ∀ (bl_78 : List (List UInt8)),
      (e_77 = blkE v_72.fst m l (↑(half d) : Int)) →
      (bl_78 = blkO v_72.fst m l (↑(half d) : Int)) →
      ((0 : Int) ≤ e_77 ∧ e_77 ≤ (190 : Int)) →
      ((e_77 = (0 : Int)) →
      (bl_78.length = (↑(half d) : Int).toNat)) →
      ∀ (n83 : Int),
      (n83 = (↑bl_78.length : Int)) →
      ((-9223372036854775808 : Int) ≤ n83 ∧ n83 ≤ (9223372036854775807 : Int)) →
      (
      ∃ (v : Nat × List Put × List (List UInt8) × Int),
      (e_77 = (0 : Int)) ∧
      ((↑(half d) : Int) = (↑(half d) : Int)) ∧
      (v_72.snd = v.snd.snd.snd) ∧
      ((0 : Nat) = (0 : Nat)) ∧
      ((0 : Nat) = v.fst) ∧
      (bl_78 = v.snd.snd.fst) ∧
      (n83 = (↑v.snd.snd.fst.length : Int)) ∧
      ((0 : Int) = (↑v.fst : Int)) ∧
      ([] = v.snd.fst) ∧
      (v.fst ≤ half d) ∧
      (
       ((1 : Nat) ≤ half d) ∧
       (half d ≤ (32 : Nat))) ∧
      (v.snd.snd.fst.length = half d) ∧
      (
       ((0 : Int) ≤ v.snd.snd.snd) ∧
       (v.snd.snd.snd ≤ (1 : Int))) ∧
      (
       ((0 : Int) ≤ slo d v.snd.snd.snd) ∧
       (slo d v.snd.snd.snd ≤ (32 : Int))) ∧
      (v.snd.fst.length = v.fst) ∧
      (BQ d m l v.snd.snd.snd v.snd.snd.fst) ∧
      (PuI (slo d v.snd.snd.snd) v.snd.snd.fst v.fst v.snd.fst)) ∧
      ∀ (v_86 : Nat × List Put × List (List UInt8) × Int),
      (v_86.fst ≤ half d ∧ ((1 : Nat) ≤ half d ∧ half d ≤ (32 : Nat)) ∧ v_86.snd.snd.fst.length = half d ∧ ((0 : Int) ≤ v_86.snd.snd.snd ∧ v_86.snd.snd.snd ≤ (1 : Int)) ∧ ((0 : Int) ≤ slo d v_86.snd.snd.snd ∧ slo d v_86.snd.snd.snd ≤ (32 : Int)) ∧ v_86.snd.fst.length = v_86.fst ∧ BQ d m l v_86.snd.snd.snd v_86.snd.snd.fst ∧ PuI (slo d v_86.snd.snd.snd) v_86.snd.snd.fst v_86.fst v_86.snd.fst) →
      br (decide ((↑v_86.fst : Int) < (↑v_86.snd.snd.fst.length : Int)))
      (((0 : Int) ≤ (↑v_86.fst : Int)) ∧
       ((↑v_86.fst : Int) < (↑v_86.snd.snd.fst.length : Int)) ∧
       ∀ (n88 : Int),
       (n88 = IntKind.i64.wrap (v_86.snd.snd.snd * (↑(half d) : Int))) →
       ((-9223372036854775808 : Int) ≤ n88 ∧ n88 ≤ (9223372036854775807 : Int)) →
       ∀ (n91 : Int),
       (n91 = IntKind.i64.wrap (n88 + (↑v_86.fst : Int))) →
       ((-9223372036854775808 : Int) ≤ n91 ∧ n91 ≤ (9223372036854775807 : Int)) →
       ((v_86.fst + (1 : Nat)) * (32 : Nat) ≤ (140737488355328 : Nat)) ∧
       ∀ (z94 : List Put),
       (z94 = List.take v_86.fst v_86.snd.fst ++ List.take (1 : Nat) (List.drop (0 : Nat) [{ n := n91, data := v_86.snd.snd.fst.getD (↑v_86.fst : Int).toNat (dflt (6 : Nat)) : Put }])) →
       ∀ (n96 : Int),
       (n96 = IntKind.i64.wrap ((↑v_86.fst : Int) + (1 : Int))) →
       ((-9223372036854775808 : Int) ≤ n96 ∧ n96 ≤ (9223372036854775807 : Int)) →
       ∃ (v' : Nat × List Put × List (List UInt8) × Int),
       ((0 : Int) = (0 : Int)) ∧
       ((↑(half d) : Int) = (↑(half d) : Int)) ∧
       (v_86.snd.snd.snd = v'.snd.snd.snd) ∧
       ((0 : Nat) = (0 : Nat)) ∧
       (v_86.fst + (1 : Nat) = v'.fst) ∧
       (v_86.snd.snd.fst = v'.snd.snd.fst) ∧
       ((↑v_86.snd.snd.fst.length : Int) = (↑v'.snd.snd.fst.length : Int)) ∧
       (n96 = (↑v'.fst : Int)) ∧
       (z94 = v'.snd.fst) ∧
       (
       (v'.fst ≤ half d) ∧
       (
        ((1 : Nat) ≤ half d) ∧
        (half d ≤ (32 : Nat))) ∧
       (v'.snd.snd.fst.length = half d) ∧
       (
        ((0 : Int) ≤ v'.snd.snd.snd) ∧
        (v'.snd.snd.snd ≤ (1 : Int))) ∧
       (
        ((0 : Int) ≤ slo d v'.snd.snd.snd) ∧
        (slo d v'.snd.snd.snd ≤ (32 : Int))) ∧
       (v'.snd.fst.length = v'.fst) ∧
       (BQ d m l v'.snd.snd.snd v'.snd.snd.fst) ∧
       (PuI (slo d v'.snd.snd.snd) v'.snd.snd.fst v'.fst v'.snd.fst)) ∧
       (half d - v'.fst < half d - v_86.fst))
      ((k (AV.tup [AV.row (9 : Nat) (0 : Nat) (0 : Nat) v_86.fst, AV.int IntKind.i64 (0 : Int)]) [] [Blk.row (9 : Nat) v_86.snd.fst])))))
    ((
     ((0 : Int) ≤ (1 : Int)) ∧
     ((1 : Int) < (↑(2 : Nat) : Int)) ∧
     (
      (B64 b1_14) ∧
      ((0 : Int) ≤ (0 : Int)) ∧
      ((0 : Int) ≤ (4611686018427387903 : Int))) ∧
     ∀ (r_99 : Int),
     (Nx (0 : Int) b1_14 r_99) →
     ((1 : Int) ≤ r_99 ∧ r_99 ≤ (4611686018427387936 : Int)) →
     ∃ (v : Int × Int),
     (n19 = (↑(half d) : Int)) ∧
     ((1 : Int) = v.snd) ∧
     (r_99 = v.fst) ∧
     (m = m) ∧
     (l = l) ∧
     (
      ((1 : Nat) ≤ half d) ∧
      (half d ≤ (32 : Nat))) ∧
     (
      ((0 : Int) ≤ m) ∧
      (m ≤ (3 : Int))) ∧
     (
      ((1 : Int) ≤ v.fst) ∧
      (v.fst ≤ (4611686018427387936 : Int))) ∧
     (
      ((0 : Int) ≤ v.snd) ∧
      (v.snd ≤ (1 : Int))) ∧
     (PQ d m l v.fst v.snd)) ∧
     ∀ (v_102 : Int × Int),
     (((1 : Nat) ≤ half d ∧ half d ≤ (32 : Nat)) ∧ ((0 : Int) ≤ m ∧ m ≤ (3 : Int)) ∧ ((1 : Int) ≤ v_102.fst ∧ v_102.fst ≤ (4611686018427387936 : Int)) ∧ ((0 : Int) ≤ v_102.snd ∧ v_102.snd ≤ (1 : Int)) ∧ PQ d m l v_102.fst v_102.snd) →
     ∀ (n104 : Int),
     (n104 = v_102.fst) →
     ((-9223372036854775808 : Int) ≤ n104 ∧ n104 ≤ (9223372036854775807 : Int)) →
     br (decide (n104 ≥ (4611686018427387904 : Int)))
     ((k (AV.tup [AV.nilsl, AV.int IntKind.i64 (190 : Int)]) [] []))
     ((
      (
       ((-9223372036854775808 : Int) ≤ v_102.fst) ∧
       (v_102.fst ≤ (9223372036854775807 : Int))) ∧
      ((0 : Int) ≤ m) ∧
      (m ≤ (255 : Int))) ∧
      ∀ (e_107 : Int),
      ∀ (bl_108 : List (List UInt8)),
      (e_107 = blkE v_102.fst m l (↑(half d) : Int)) →
      (bl_108 = blkO v_102.fst m l (↑(half d) : Int)) →
      ((0 : Int) ≤ e_107 ∧ e_107 ≤ (190 : Int)) →
      ((e_107 = (0 : Int)) →
      (bl_108.length = (↑(half d) : Int).toNat)) →
      ∀ (n113 : Int),
      (n113 = (↑bl_108.length : Int)) →
      ((-9223372036854775808 : Int) ≤ n113 ∧ n113 ≤ (9223372036854775807 : Int)) →
      (
      ∃ (v : Nat × List Put × List (List UInt8) × Int),
      (e_107 = (0 : Int)) ∧
      ((↑(half d) : Int) = (↑(half d) : Int)) ∧
      (v_102.snd = v.snd.snd.snd) ∧
      ((0 : Nat) = (0 : Nat)) ∧
      ((0 : Nat) = v.fst) ∧
      (bl_108 = v.snd.snd.fst) ∧
      (n113 = (↑v.snd.snd.fst.length : Int)) ∧
      ((0 : Int) = (↑v.fst : Int)) ∧
      ([] = v.snd.fst) ∧
      (v.fst ≤ half d) ∧
      (
       ((1 : Nat) ≤ half d) ∧
       (half d ≤ (32 : Nat))) ∧
      (v.snd.snd.fst.length = half d) ∧
      (
       ((0 : Int) ≤ v.snd.snd.snd) ∧
       (v.snd.snd.snd ≤ (1 : Int))) ∧
      (
       ((0 : Int) ≤ slo d v.snd.snd.snd) ∧
       (slo d v.snd.snd.snd ≤ (32 : Int))) ∧
      (v.snd.fst.length = v.fst) ∧
      (BQ d m l v.snd.snd.snd v.snd.snd.fst) ∧
      (PuI (slo d v.snd.snd.snd) v.snd.snd.fst v.fst v.snd.fst)) ∧
      ∀ (v_116 : Nat × List Put × List (List UInt8) × Int),
      (v_116.fst ≤ half d ∧ ((1 : Nat) ≤ half d ∧ half d ≤ (32 : Nat)) ∧ v_116.snd.snd.fst.length = half d ∧ ((0 : Int) ≤ v_116.snd.snd.snd ∧ v_116.snd.snd.snd ≤ (1 : Int)) ∧ ((0 : Int) ≤ slo d v_116.snd.snd.snd ∧ slo d v_116.snd.snd.snd ≤ (32 : Int)) ∧ v_116.snd.fst.length = v_116.fst ∧ BQ d m l v_116.snd.snd.snd v_116.snd.snd.fst ∧ PuI (slo d v_116.snd.snd.snd) v_116.snd.snd.fst v_116.fst v_116.snd.fst) →
      br (decide ((↑v_116.fst : Int) < (↑v_116.snd.snd.fst.length : Int)))
      (((0 : Int) ≤ (↑v_116.fst : Int)) ∧
       ((↑v_116.fst : Int) < (↑v_116.snd.snd.fst.length : Int)) ∧
       ∀ (n118 : Int),
       (n118 = IntKind.i64.wrap (v_116.snd.snd.snd * (↑(half d) : Int))) →
       ((-9223372036854775808 : Int) ≤ n118 ∧ n118 ≤ (9223372036854775807 : Int)) →
       ∀ (n121 : Int),
       (n121 = IntKind.i64.wrap (n118 + (↑v_116.fst : Int))) →
       ((-9223372036854775808 : Int) ≤ n121 ∧ n121 ≤ (9223372036854775807 : Int)) →
       ((v_116.fst + (1 : Nat)) * (32 : Nat) ≤ (140737488355328 : Nat)) ∧
       ∀ (z124 : List Put),
       (z124 = List.take v_116.fst v_116.snd.fst ++ List.take (1 : Nat) (List.drop (0 : Nat) [{ n := n121, data := v_116.snd.snd.fst.getD (↑v_116.fst : Int).toNat (dflt (6 : Nat)) : Put }])) →
       ∀ (n126 : Int),
       (n126 = IntKind.i64.wrap ((↑v_116.fst : Int) + (1 : Int))) →
       ((-9223372036854775808 : Int) ≤ n126 ∧ n126 ≤ (9223372036854775807 : Int)) →
       ∃ (v' : Nat × List Put × List (List UInt8) × Int),
       ((0 : Int) = (0 : Int)) ∧
       ((↑(half d) : Int) = (↑(half d) : Int)) ∧
       (v_116.snd.snd.snd = v'.snd.snd.snd) ∧
       ((0 : Nat) = (0 : Nat)) ∧
       (v_116.fst + (1 : Nat) = v'.fst) ∧
       (v_116.snd.snd.fst = v'.snd.snd.fst) ∧
       ((↑v_116.snd.snd.fst.length : Int) = (↑v'.snd.snd.fst.length : Int)) ∧
       (n126 = (↑v'.fst : Int)) ∧
       (z124 = v'.snd.fst) ∧
       (
       (v'.fst ≤ half d) ∧
       (
        ((1 : Nat) ≤ half d) ∧
        (half d ≤ (32 : Nat))) ∧
       (v'.snd.snd.fst.length = half d) ∧
       (
        ((0 : Int) ≤ v'.snd.snd.snd) ∧
        (v'.snd.snd.snd ≤ (1 : Int))) ∧
       (
        ((0 : Int) ≤ slo d v'.snd.snd.snd) ∧
        (slo d v'.snd.snd.snd ≤ (32 : Int))) ∧
       (v'.snd.fst.length = v'.fst) ∧
       (BQ d m l v'.snd.snd.snd v'.snd.snd.fst) ∧
       (PuI (slo d v'.snd.snd.snd) v'.snd.snd.fst v'.fst v'.snd.fst)) ∧
       (half d - v'.fst < half d - v_116.fst))
      ((k (AV.tup [AV.row (9 : Nat) (0 : Nat) (0 : Nat) v_116.fst, AV.int IntKind.i64 (0 : Int)]) [] [Blk.row (9 : Nat) v_116.snd.fst])))))
   (br (decide (c_28 ≥ (0 : Int)))
    ((
     ((0 : Int) ≤ c_28) ∧
     (c_28 ≤ (1 : Int))) ∧
     (
     (c_28 = (0 : Int)) →
     ((0 : Int) ≤ (0 : Int)) ∧
     ((0 : Int) < (↑(2 : Nat) : Int)) ∧
     ∀ (n130 : Int),
     (n130 = g0_6) →
     ((-9223372036854775808 : Int) ≤ n130 ∧ n130 ≤ (9223372036854775807 : Int)) →
     (
      ((0 : Int) ≤ (0 : Int)) ∧
      ((0 : Int) < (↑(2 : Nat) : Int)) ∧
      (
      (B64 b0_9) ∧
      ((0 : Int) ≤ n130) ∧
      (n130 ≤ (4611686018427387903 : Int))) ∧
      ∀ (r_133 : Int),
      (Nx n130 b0_9 r_133) →
      ((1 : Int) ≤ r_133 ∧ r_133 ≤ (4611686018427387936 : Int)) →
      ∃ (v : Int × Int),
      (n19 = (↑(half d) : Int)) ∧
      ((0 : Int) = v.snd) ∧
      (r_133 = v.fst) ∧
      (m = m) ∧
      (l = l) ∧
      (
      ((1 : Nat) ≤ half d) ∧
      (half d ≤ (32 : Nat))) ∧
      (
      ((0 : Int) ≤ m) ∧
      (m ≤ (3 : Int))) ∧
      (
      ((1 : Int) ≤ v.fst) ∧
      (v.fst ≤ (4611686018427387936 : Int))) ∧
      (
      ((0 : Int) ≤ v.snd) ∧
      (v.snd ≤ (1 : Int))) ∧
      (PQ d m l v.fst v.snd)) ∧
     ∀ (v_136 : Int × Int),
     (((1 : Nat) ≤ half d ∧ half d ≤ (32 : Nat)) ∧ ((0 : Int) ≤ m ∧ m ≤ (3 : Int)) ∧ ((1 : Int) ≤ v_136.fst ∧ v_136.fst ≤ (4611686018427387936 : Int)) ∧ ((0 : Int) ≤ v_136.snd ∧ v_136.snd ≤ (1 : Int)) ∧ PQ d m l v_136.fst v_136.snd) →
     ∀ (n138 : Int),
     (n138 = v_136.fst) →
     ((-9223372036854775808 : Int) ≤ n138 ∧ n138 ≤ (9223372036854775807 : Int)) →
     br (decide (n138 ≥ (4611686018427387904 : Int)))
      ((k (AV.tup [AV.nilsl, AV.int IntKind.i64 (190 : Int)]) [] []))
      ((
       (
       ((-9223372036854775808 : Int) ≤ v_136.fst) ∧
       (v_136.fst ≤ (9223372036854775807 : Int))) ∧
       ((0 : Int) ≤ m) ∧
       (m ≤ (255 : Int))) ∧
      ∀ (e_141 : Int),
      ∀ (bl_142 : List (List UInt8)),
      (e_141 = blkE v_136.fst m l (↑(half d) : Int)) →
      (bl_142 = blkO v_136.fst m l (↑(half d) : Int)) →
      ((0 : Int) ≤ e_141 ∧ e_141 ≤ (190 : Int)) →
      ((e_141 = (0 : Int)) →
       (bl_142.length = (↑(half d) : Int).toNat)) →
      ∀ (n147 : Int),
      (n147 = (↑bl_142.length : Int)) →
      ((-9223372036854775808 : Int) ≤ n147 ∧ n147 ≤ (9223372036854775807 : Int)) →
      (
       ∃ (v : Nat × List Put × List (List UInt8) × Int),
       (e_141 = (0 : Int)) ∧
       ((↑(half d) : Int) = (↑(half d) : Int)) ∧
       (v_136.snd = v.snd.snd.snd) ∧
       ((0 : Nat) = (0 : Nat)) ∧
       ((0 : Nat) = v.fst) ∧
       (bl_142 = v.snd.snd.fst) ∧
       (n147 = (↑v.snd.snd.fst.length : Int)) ∧
       ((0 : Int) = (↑v.fst : Int)) ∧
       ([] = v.snd.fst) ∧
       (v.fst ≤ half d) ∧
       (
       ((1 : Nat) ≤ half d) ∧
       (half d ≤ (32 : Nat))) ∧
       (v.snd.snd.fst.length = half d) ∧
       (
       ((0 : Int) ≤ v.snd.snd.snd) ∧
       (v.snd.snd.snd ≤ (1 : Int))) ∧
       (
       ((0 : Int) ≤ slo d v.snd.snd.snd) ∧
       (slo d v.snd.snd.snd ≤ (32 : Int))) ∧
       (v.snd.fst.length = v.fst) ∧
       (BQ d m l v.snd.snd.snd v.snd.snd.fst) ∧
       (PuI (slo d v.snd.snd.snd) v.snd.snd.fst v.fst v.snd.fst)) ∧
      ∀ (v_150 : Nat × List Put × List (List UInt8) × Int),
      (v_150.fst ≤ half d ∧ ((1 : Nat) ≤ half d ∧ half d ≤ (32 : Nat)) ∧ v_150.snd.snd.fst.length = half d ∧ ((0 : Int) ≤ v_150.snd.snd.snd ∧ v_150.snd.snd.snd ≤ (1 : Int)) ∧ ((0 : Int) ≤ slo d v_150.snd.snd.snd ∧ slo d v_150.snd.snd.snd ≤ (32 : Int)) ∧ v_150.snd.fst.length = v_150.fst ∧ BQ d m l v_150.snd.snd.snd v_150.snd.snd.fst ∧ PuI (slo d v_150.snd.snd.snd) v_150.snd.snd.fst v_150.fst v_150.snd.fst) →
      br (decide ((↑v_150.fst : Int) < (↑v_150.snd.snd.fst.length : Int)))
       (((0 : Int) ≤ (↑v_150.fst : Int)) ∧
       ((↑v_150.fst : Int) < (↑v_150.snd.snd.fst.length : Int)) ∧
       ∀ (n152 : Int),
       (n152 = IntKind.i64.wrap (v_150.snd.snd.snd * (↑(half d) : Int))) →
       ((-9223372036854775808 : Int) ≤ n152 ∧ n152 ≤ (9223372036854775807 : Int)) →
       ∀ (n155 : Int),
       (n155 = IntKind.i64.wrap (n152 + (↑v_150.fst : Int))) →
       ((-9223372036854775808 : Int) ≤ n155 ∧ n155 ≤ (9223372036854775807 : Int)) →
       ((v_150.fst + (1 : Nat)) * (32 : Nat) ≤ (140737488355328 : Nat)) ∧
       ∀ (z158 : List Put),
       (z158 = List.take v_150.fst v_150.snd.fst ++ List.take (1 : Nat) (List.drop (0 : Nat) [{ n := n155, data := v_150.snd.snd.fst.getD (↑v_150.fst : Int).toNat (dflt (6 : Nat)) : Put }])) →
       ∀ (n160 : Int),
       (n160 = IntKind.i64.wrap ((↑v_150.fst : Int) + (1 : Int))) →
       ((-9223372036854775808 : Int) ≤ n160 ∧ n160 ≤ (9223372036854775807 : Int)) →
       ∃ (v' : Nat × List Put × List (List UInt8) × Int),
       ((0 : Int) = (0 : Int)) ∧
       ((↑(half d) : Int) = (↑(half d) : Int)) ∧
       (v_150.snd.snd.snd = v'.snd.snd.snd) ∧
       ((0 : Nat) = (0 : Nat)) ∧
       (v_150.fst + (1 : Nat) = v'.fst) ∧
       (v_150.snd.snd.fst = v'.snd.snd.fst) ∧
       ((↑v_150.snd.snd.fst.length : Int) = (↑v'.snd.snd.fst.length : Int)) ∧
       (n160 = (↑v'.fst : Int)) ∧
       (z158 = v'.snd.fst) ∧
       (
        (v'.fst ≤ half d) ∧
        (
        ((1 : Nat) ≤ half d) ∧
        (half d ≤ (32 : Nat))) ∧
        (v'.snd.snd.fst.length = half d) ∧
        (
        ((0 : Int) ≤ v'.snd.snd.snd) ∧
        (v'.snd.snd.snd ≤ (1 : Int))) ∧
        (
        ((0 : Int) ≤ slo d v'.snd.snd.snd) ∧
        (slo d v'.snd.snd.snd ≤ (32 : Int))) ∧
        (v'.snd.fst.length = v'.fst) ∧
        (BQ d m l v'.snd.snd.snd v'.snd.snd.fst) ∧
        (PuI (slo d v'.snd.snd.snd) v'.snd.snd.fst v'.fst v'.snd.fst)) ∧
       (half d - v'.fst < half d - v_150.fst))
       ((k (AV.tup [AV.row (9 : Nat) (0 : Nat) (0 : Nat) v_150.fst, AV.int IntKind.i64 (0 : Int)]) [] [Blk.row (9 : Nat) v_150.snd.fst])))) ∧
     ((c_28 = (1 : Int)) →
     ((0 : Int) ≤ (1 : Int)) ∧
     ((1 : Int) < (↑(2 : Nat) : Int)) ∧
     ∀ (n164 : Int),
     (n164 = g1_11) →
     ((-9223372036854775808 : Int) ≤ n164 ∧ n164 ≤ (9223372036854775807 : Int)) →
     (
     ((0 : Int) ≤ (0 : Int)) ∧
     ((0 : Int) < (↑(2 : Nat) : Int)) ∧
     (
      (B64 b0_9) ∧
      ((0 : Int) ≤ n164) ∧
      (n164 ≤ (4611686018427387903 : Int))) ∧
     ∀ (r_167 : Int),
     (Nx n164 b0_9 r_167) →
     ((1 : Int) ≤ r_167 ∧ r_167 ≤ (4611686018427387936 : Int)) →
     ∃ (v : Int × Int),
     (n19 = (↑(half d) : Int)) ∧
     ((0 : Int) = v.snd) ∧
     (r_167 = v.fst) ∧
     (m = m) ∧
     (l = l) ∧
     (
      ((1 : Nat) ≤ half d) ∧
      (half d ≤ (32 : Nat))) ∧
     (
      ((0 : Int) ≤ m) ∧
      (m ≤ (3 : Int))) ∧
     (
      ((1 : Int) ≤ v.fst) ∧
      (v.fst ≤ (4611686018427387936 : Int))) ∧
     (
      ((0 : Int) ≤ v.snd) ∧
      (v.snd ≤ (1 : Int))) ∧
     (PQ d m l v.fst v.snd)) ∧
     ∀ (v_170 : Int × Int),
     (((1 : Nat) ≤ half d ∧ half d ≤ (32 : Nat)) ∧ ((0 : Int) ≤ m ∧ m ≤ (3 : Int)) ∧ ((1 : Int) ≤ v_170.fst ∧ v_170.fst ≤ (4611686018427387936 : Int)) ∧ ((0 : Int) ≤ v_170.snd ∧ v_170.snd ≤ (1 : Int)) ∧ PQ d m l v_170.fst v_170.snd) →
     ∀ (n172 : Int),
     (n172 = v_170.fst) →
     ((-9223372036854775808 : Int) ≤ n172 ∧ n172 ≤ (9223372036854775807 : Int)) →
     br (decide (n172 ≥ (4611686018427387904 : Int)))
     ((k (AV.tup [AV.nilsl, AV.int IntKind.i64 (190 : Int)]) [] []))
     ((
      (
       ((-9223372036854775808 : Int) ≤ v_170.fst) ∧
       (v_170.fst ≤ (9223372036854775807 : Int))) ∧
      ((0 : Int) ≤ m) ∧
      (m ≤ (255 : Int))) ∧
      ∀ (e_175 : Int),
      ∀ (bl_176 : List (List UInt8)),
      (e_175 = blkE v_170.fst m l (↑(half d) : Int)) →
      (bl_176 = blkO v_170.fst m l (↑(half d) : Int)) →
      ((0 : Int) ≤ e_175 ∧ e_175 ≤ (190 : Int)) →
      ((e_175 = (0 : Int)) →
      (bl_176.length = (↑(half d) : Int).toNat)) →
      ∀ (n181 : Int),
      (n181 = (↑bl_176.length : Int)) →
      ((-9223372036854775808 : Int) ≤ n181 ∧ n181 ≤ (9223372036854775807 : Int)) →
      (
      ∃ (v : Nat × List Put × List (List UInt8) × Int),
      (e_175 = (0 : Int)) ∧
      ((↑(half d) : Int) = (↑(half d) : Int)) ∧
      (v_170.snd = v.snd.snd.snd) ∧
      ((0 : Nat) = (0 : Nat)) ∧
      ((0 : Nat) = v.fst) ∧
      (bl_176 = v.snd.snd.fst) ∧
      (n181 = (↑v.snd.snd.fst.length : Int)) ∧
      ((0 : Int) = (↑v.fst : Int)) ∧
      ([] = v.snd.fst) ∧
      (v.fst ≤ half d) ∧
      (
       ((1 : Nat) ≤ half d) ∧
       (half d ≤ (32 : Nat))) ∧
      (v.snd.snd.fst.length = half d) ∧
      (
       ((0 : Int) ≤ v.snd.snd.snd) ∧
       (v.snd.snd.snd ≤ (1 : Int))) ∧
      (
       ((0 : Int) ≤ slo d v.snd.snd.snd) ∧
       (slo d v.snd.snd.snd ≤ (32 : Int))) ∧
      (v.snd.fst.length = v.fst) ∧
      (BQ d m l v.snd.snd.snd v.snd.snd.fst) ∧
      (PuI (slo d v.snd.snd.snd) v.snd.snd.fst v.fst v.snd.fst)) ∧
      ∀ (v_184 : Nat × List Put × List (List UInt8) × Int),
      (v_184.fst ≤ half d ∧ ((1 : Nat) ≤ half d ∧ half d ≤ (32 : Nat)) ∧ v_184.snd.snd.fst.length = half d ∧ ((0 : Int) ≤ v_184.snd.snd.snd ∧ v_184.snd.snd.snd ≤ (1 : Int)) ∧ ((0 : Int) ≤ slo d v_184.snd.snd.snd ∧ slo d v_184.snd.snd.snd ≤ (32 : Int)) ∧ v_184.snd.fst.length = v_184.fst ∧ BQ d m l v_184.snd.snd.snd v_184.snd.snd.fst ∧ PuI (slo d v_184.snd.snd.snd) v_184.snd.snd.fst v_184.fst v_184.snd.fst) →
      br (decide ((↑v_184.fst : Int) < (↑v_184.snd.snd.fst.length : Int)))
      (((0 : Int) ≤ (↑v_184.fst : Int)) ∧
       ((↑v_184.fst : Int) < (↑v_184.snd.snd.fst.length : Int)) ∧
       ∀ (n186 : Int),
       (n186 = IntKind.i64.wrap (v_184.snd.snd.snd * (↑(half d) : Int))) →
       ((-9223372036854775808 : Int) ≤ n186 ∧ n186 ≤ (9223372036854775807 : Int)) →
       ∀ (n189 : Int),
       (n189 = IntKind.i64.wrap (n186 + (↑v_184.fst : Int))) →
       ((-9223372036854775808 : Int) ≤ n189 ∧ n189 ≤ (9223372036854775807 : Int)) →
       ((v_184.fst + (1 : Nat)) * (32 : Nat) ≤ (140737488355328 : Nat)) ∧
       ∀ (z192 : List Put),
       (z192 = List.take v_184.fst v_184.snd.fst ++ List.take (1 : Nat) (List.drop (0 : Nat) [{ n := n189, data := v_184.snd.snd.fst.getD (↑v_184.fst : Int).toNat (dflt (6 : Nat)) : Put }])) →
       ∀ (n194 : Int),
       (n194 = IntKind.i64.wrap ((↑v_184.fst : Int) + (1 : Int))) →
       ((-9223372036854775808 : Int) ≤ n194 ∧ n194 ≤ (9223372036854775807 : Int)) →
       ∃ (v' : Nat × List Put × List (List UInt8) × Int),
       ((0 : Int) = (0 : Int)) ∧
       ((↑(half d) : Int) = (↑(half d) : Int)) ∧
       (v_184.snd.snd.snd = v'.snd.snd.snd) ∧
       ((0 : Nat) = (0 : Nat)) ∧
       (v_184.fst + (1 : Nat) = v'.fst) ∧
       (v_184.snd.snd.fst = v'.snd.snd.fst) ∧
       ((↑v_184.snd.snd.fst.length : Int) = (↑v'.snd.snd.fst.length : Int)) ∧
       (n194 = (↑v'.fst : Int)) ∧
       (z192 = v'.snd.fst) ∧
       (
       (v'.fst ≤ half d) ∧
       (
        ((1 : Nat) ≤ half d) ∧
        (half d ≤ (32 : Nat))) ∧
       (v'.snd.snd.fst.length = half d) ∧
       (
        ((0 : Int) ≤ v'.snd.snd.snd) ∧
        (v'.snd.snd.snd ≤ (1 : Int))) ∧
       (
        ((0 : Int) ≤ slo d v'.snd.snd.snd) ∧
        (slo d v'.snd.snd.snd ≤ (32 : Int))) ∧
       (v'.snd.fst.length = v'.fst) ∧
       (BQ d m l v'.snd.snd.snd v'.snd.snd.fst) ∧
       (PuI (slo d v'.snd.snd.snd) v'.snd.snd.fst v'.fst v'.snd.fst)) ∧
       (half d - v'.fst < half d - v_184.fst))
      ((k (AV.tup [AV.row (9 : Nat) (0 : Nat) (0 : Nat) v_184.fst, AV.int IntKind.i64 (0 : Int)]) [] [Blk.row (9 : Nat) v_184.snd.fst])))))
    ((
     ((0 : Int) ≤ (0 : Int)) ∧
     ((0 : Int) < (↑(2 : Nat) : Int)) ∧
     (
      (B64 b0_9) ∧
      ((0 : Int) ≤ (0 : Int)) ∧
      ((0 : Int) ≤ (4611686018427387903 : Int))) ∧
     ∀ (r_197 : Int),
     (Nx (0 : Int) b0_9 r_197) →
     ((1 : Int) ≤ r_197 ∧ r_197 ≤ (4611686018427387936 : Int)) →
     ∃ (v : Int × Int),
     (n19 = (↑(half d) : Int)) ∧
     ((0 : Int) = v.snd) ∧
     (r_197 = v.fst) ∧
     (m = m) ∧
     (l = l) ∧
     (
      ((1 : Nat) ≤ half d) ∧
      (half d ≤ (32 : Nat))) ∧
     (
      ((0 : Int) ≤ m) ∧
      (m ≤ (3 : Int))) ∧
     (
      ((1 : Int) ≤ v.fst) ∧
      (v.fst ≤ (4611686018427387936 : Int))) ∧
     (
      ((0 : Int) ≤ v.snd) ∧
      (v.snd ≤ (1 : Int))) ∧
     (PQ d m l v.fst v.snd)) ∧
     ∀ (v_200 : Int × Int),
     (((1 : Nat) ≤ half d ∧ half d ≤ (32 : Nat)) ∧ ((0 : Int) ≤ m ∧ m ≤ (3 : Int)) ∧ ((1 : Int) ≤ v_200.fst ∧ v_200.fst ≤ (4611686018427387936 : Int)) ∧ ((0 : Int) ≤ v_200.snd ∧ v_200.snd ≤ (1 : Int)) ∧ PQ d m l v_200.fst v_200.snd) →
     ∀ (n202 : Int),
     (n202 = v_200.fst) →
     ((-9223372036854775808 : Int) ≤ n202 ∧ n202 ≤ (9223372036854775807 : Int)) →
     br (decide (n202 ≥ (4611686018427387904 : Int)))
     ((k (AV.tup [AV.nilsl, AV.int IntKind.i64 (190 : Int)]) [] []))
     ((
      (
       ((-9223372036854775808 : Int) ≤ v_200.fst) ∧
       (v_200.fst ≤ (9223372036854775807 : Int))) ∧
      ((0 : Int) ≤ m) ∧
      (m ≤ (255 : Int))) ∧
      ∀ (e_205 : Int),
      ∀ (bl_206 : List (List UInt8)),
      (e_205 = blkE v_200.fst m l (↑(half d) : Int)) →
      (bl_206 = blkO v_200.fst m l (↑(half d) : Int)) →
      ((0 : Int) ≤ e_205 ∧ e_205 ≤ (190 : Int)) →
      ((e_205 = (0 : Int)) →
      (bl_206.length = (↑(half d) : Int).toNat)) →
      ∀ (n211 : Int),
      (n211 = (↑bl_206.length : Int)) →
      ((-9223372036854775808 : Int) ≤ n211 ∧ n211 ≤ (9223372036854775807 : Int)) →
      (
      ∃ (v : Nat × List Put × List (List UInt8) × Int),
      (e_205 = (0 : Int)) ∧
      ((↑(half d) : Int) = (↑(half d) : Int)) ∧
      (v_200.snd = v.snd.snd.snd) ∧
      ((0 : Nat) = (0 : Nat)) ∧
      ((0 : Nat) = v.fst) ∧
      (bl_206 = v.snd.snd.fst) ∧
      (n211 = (↑v.snd.snd.fst.length : Int)) ∧
      ((0 : Int) = (↑v.fst : Int)) ∧
      ([] = v.snd.fst) ∧
      (v.fst ≤ half d) ∧
      (
       ((1 : Nat) ≤ half d) ∧
       (half d ≤ (32 : Nat))) ∧
      (v.snd.snd.fst.length = half d) ∧
      (
       ((0 : Int) ≤ v.snd.snd.snd) ∧
       (v.snd.snd.snd ≤ (1 : Int))) ∧
      (
       ((0 : Int) ≤ slo d v.snd.snd.snd) ∧
       (slo d v.snd.snd.snd ≤ (32 : Int))) ∧
      (v.snd.fst.length = v.fst) ∧
      (BQ d m l v.snd.snd.snd v.snd.snd.fst) ∧
      (PuI (slo d v.snd.snd.snd) v.snd.snd.fst v.fst v.snd.fst)) ∧
      ∀ (v_214 : Nat × List Put × List (List UInt8) × Int),
      (v_214.fst ≤ half d ∧ ((1 : Nat) ≤ half d ∧ half d ≤ (32 : Nat)) ∧ v_214.snd.snd.fst.length = half d ∧ ((0 : Int) ≤ v_214.snd.snd.snd ∧ v_214.snd.snd.snd ≤ (1 : Int)) ∧ ((0 : Int) ≤ slo d v_214.snd.snd.snd ∧ slo d v_214.snd.snd.snd ≤ (32 : Int)) ∧ v_214.snd.fst.length = v_214.fst ∧ BQ d m l v_214.snd.snd.snd v_214.snd.snd.fst ∧ PuI (slo d v_214.snd.snd.snd) v_214.snd.snd.fst v_214.fst v_214.snd.fst) →
      br (decide ((↑v_214.fst : Int) < (↑v_214.snd.snd.fst.length : Int)))
      (((0 : Int) ≤ (↑v_214.fst : Int)) ∧
       ((↑v_214.fst : Int) < (↑v_214.snd.snd.fst.length : Int)) ∧
       ∀ (n216 : Int),
       (n216 = IntKind.i64.wrap (v_214.snd.snd.snd * (↑(half d) : Int))) →
       ((-9223372036854775808 : Int) ≤ n216 ∧ n216 ≤ (9223372036854775807 : Int)) →
       ∀ (n219 : Int),
       (n219 = IntKind.i64.wrap (n216 + (↑v_214.fst : Int))) →
       ((-9223372036854775808 : Int) ≤ n219 ∧ n219 ≤ (9223372036854775807 : Int)) →
       ((v_214.fst + (1 : Nat)) * (32 : Nat) ≤ (140737488355328 : Nat)) ∧
       ∀ (z222 : List Put),
       (z222 = List.take v_214.fst v_214.snd.fst ++ List.take (1 : Nat) (List.drop (0 : Nat) [{ n := n219, data := v_214.snd.snd.fst.getD (↑v_214.fst : Int).toNat (dflt (6 : Nat)) : Put }])) →
       ∀ (n224 : Int),
       (n224 = IntKind.i64.wrap ((↑v_214.fst : Int) + (1 : Int))) →
       ((-9223372036854775808 : Int) ≤ n224 ∧ n224 ≤ (9223372036854775807 : Int)) →
       ∃ (v' : Nat × List Put × List (List UInt8) × Int),
       ((0 : Int) = (0 : Int)) ∧
       ((↑(half d) : Int) = (↑(half d) : Int)) ∧
       (v_214.snd.snd.snd = v'.snd.snd.snd) ∧
       ((0 : Nat) = (0 : Nat)) ∧
       (v_214.fst + (1 : Nat) = v'.fst) ∧
       (v_214.snd.snd.fst = v'.snd.snd.fst) ∧
       ((↑v_214.snd.snd.fst.length : Int) = (↑v'.snd.snd.fst.length : Int)) ∧
       (n224 = (↑v'.fst : Int)) ∧
       (z222 = v'.snd.fst) ∧
       (
       (v'.fst ≤ half d) ∧
       (
        ((1 : Nat) ≤ half d) ∧
        (half d ≤ (32 : Nat))) ∧
       (v'.snd.snd.fst.length = half d) ∧
       (
        ((0 : Int) ≤ v'.snd.snd.snd) ∧
        (v'.snd.snd.snd ≤ (1 : Int))) ∧
       (
        ((0 : Int) ≤ slo d v'.snd.snd.snd) ∧
        (slo d v'.snd.snd.snd ≤ (32 : Int))) ∧
       (v'.snd.fst.length = v'.fst) ∧
       (BQ d m l v'.snd.snd.snd v'.snd.snd.fst) ∧
       (PuI (slo d v'.snd.snd.snd) v'.snd.snd.fst v'.fst v'.snd.fst)) ∧
       (half d - v'.fst < half d - v_214.fst))
      ((k (AV.tup [AV.row (9 : Nat) (0 : Nat) (0 : Nat) v_214.fst, AV.int IntKind.i64 (0 : Int)]) [] [Blk.row (9 : Nat) v_214.snd.fst])))))))) := by
 refine ⟨?_, ?_⟩
 ·
  intro e_1
  intro h1
  intro h2
  intro ⟨a3, b3⟩
  refine br_intro (fun c4 => ?_) (fun c4 => ?_)
  ·
   simp at c4
   exact hk.1 _ (pt_a h1 (by assumption)) (by assumption)
  ·
   simp at c4
   exfalso; omega
 intro h5
 intro h0_5
 intro g0_6
 intro m0_7
 intro p0_8
 intro b0_9
 intro h1_10
 intro g1_11
 intro m1_12
 intro p1_13
 intro b1_14
 intro h6
 intro h7
 intro h8
 intro ⟨a9, b9⟩
 refine brd (fun c10 => ?_) (fun c10 => ?_)
 ·
  exact hk.1 _ (pt_b h5.ask (by omega)) (by decide)
 ·
  refine ⟨by first | omega | (dsimp only; omega), ?_⟩
  refine ⟨by first | omega | (dsimp only; omega), ?_⟩
  intro n19
  intro q19
  intro ⟨l19, u19⟩
  refine ⟨?_, ?_⟩
  ·
   refine ⟨by first | omega | (dsimp only; omega), ?_⟩
   refine ⟨by first | omega | (dsimp only; omega), ?_⟩
   exact by omega
  intro e_22
  intro bl_23
  intro h11
  intro h12
  intro ⟨a13, b13⟩
  intro h14
  refine br_intro (fun c15 => ?_) (fun c15 => ?_)
  ·
   simp at c15
   have hh : n19 = (half d : Int) := by omega
   rw [hh] at h11
   exact hk.1 _ (pt_c h5.ask (by omega) h11 (by assumption)) (by assumption)
  ·
   simp at c15
   intro c_28
   intro h16
   intro ⟨a17, b17⟩
   refine br_intro (fun c18 => ?_) (fun c18 => ?_)
   ·
    simp at c18
    refine brd (fun c19 => ?_) (fun c19 => ?_)
    ·
     refine ⟨by exact ⟨by assumption, by assumption⟩, ?_⟩
     refine ⟨?_, ?_⟩
     ·
      intro h20
      refine ⟨by first | omega | (dsimp only; omega), ?_⟩
      refine ⟨by first | omega | (dsimp only; omega), ?_⟩
      intro n32
      intro q32
      intro ⟨l32, u32⟩
      refine ⟨?_, ?_⟩
      ·
       refine ⟨by first | omega | (dsimp only; omega), ?_⟩
       refine ⟨by first | omega | (dsimp only; omega), ?_⟩
       refine ⟨?_, ?_⟩
       ·
        have h21 : B64 b1_14 := by
         rw [h6.b.b]; exact slot_b64 h5 (by omega)
        refine ⟨h21, ?_⟩
        refine ⟨by first | omega | (dsimp only; omega), ?_⟩
        exact by omega
       intro r_35
       intro h22
       intro ⟨a23, b23⟩
       refine ⟨(r_35, (1 : Int)), ?_⟩
       refine ⟨by show n19 = (↑(half d) : Int); omega, ?_⟩
       refine ⟨by first | with_reducible rfl | rfl, ?_⟩
       refine ⟨by first | with_reducible rfl | rfl, ?_⟩
       refine ⟨by first | with_reducible rfl | rfl, ?_⟩
       refine ⟨by first | with_reducible rfl | rfl, ?_⟩
       refine ⟨?_, ?_⟩
       ·
        have h24 : (1 : Nat) ≤ half d := by
         have := h5.in; omega
        refine ⟨h24, ?_⟩
        have := h5.in; omega
       refine ⟨by first | omega | (dsimp only; omega), ?_⟩
       refine ⟨by exact ⟨by assumption, by assumption⟩, ?_⟩
       refine ⟨by first | omega | (dsimp only; omega), ?_⟩
       have eb : blkE 1 m l (half d : Int) = 0 := by rw [show (half d : Int) = n19 by omega, ← h11]; exact c15
       rw [q32] at h22
       exact pq_of h5 (by omega) eb (h6.cd0 h16 c18) rfl h6.b.b h22
      intro v_38
      intro h25
      intro n40
      intro q40
      intro ⟨l40, u40⟩
      refine brd (fun c26 => ?_) (fun c26 => ?_)
      ·
       exact hk.1 _ (pt_d h25.2.2.2.2 (by omega)) (by decide)
      ·
       refine ⟨?_, ?_⟩
       ·
        refine ⟨by first | omega | (dsimp only; omega), ?_⟩
        refine ⟨by first | omega | (dsimp only; omega), ?_⟩
        exact by omega
       intro e_43
       intro bl_44
       intro h27
       intro h28
       intro ⟨a29, b29⟩
       intro h30
       intro n49
       intro q49
       intro ⟨l49, u49⟩
       refine ⟨?_, ?_⟩
       ·
        refine ⟨((0 : Nat), [], bl_44, v_38.snd), ?_⟩
        have h31 : e_43 = (0 : Int) := by
         rw [h27]
         exact blkE_gen (g := v_38.fst) h25.2.2.2.2.b (by omega)
        refine ⟨h31, ?_⟩
        refine ⟨by first | with_reducible rfl | rfl, ?_⟩
        refine ⟨by first | with_reducible rfl | rfl, ?_⟩
        refine ⟨by first | with_reducible rfl | rfl, ?_⟩
        refine ⟨by first | with_reducible rfl | rfl, ?_⟩
        refine ⟨by first | with_reducible rfl | rfl, ?_⟩
        refine ⟨by show n49 = (↑bl_44.length : Int); assumption, ?_⟩
        refine ⟨by show (0 : Int) = (↑(0 : Nat) : Int); omega, ?_⟩
        refine ⟨by first | with_reducible rfl | rfl, ?_⟩
        refine ⟨by show (0 : Nat) ≤ half d; omega, ?_⟩
        refine ⟨by first | omega | (dsimp only; omega), ?_⟩
        refine ⟨by show bl_44.length = half d; omega, ?_⟩
        refine ⟨by first | omega | (dsimp only; omega), ?_⟩
        refine ⟨?_, ?_⟩
        ·
         have h32 : (0 : Int) ≤ slo d v_38.snd := by
          have D := askD_0 h25.2.2.2.2.a
          have := slo_in D (i := v_38.snd) (by omega)
          try dsimp only
          omega
         refine ⟨h32, ?_⟩
         have D := askD_0 h25.2.2.2.2.a
         have := slo_in D (i := v_38.snd) (by omega)
         try dsimp only
         omega
        refine ⟨by first | with_reducible rfl | rfl, ?_⟩
        have h33 : BQ d m l v_38.snd bl_44 := by
         exact ⟨_, h25.2.2.2.2, by omega, h28⟩
        refine ⟨h33, ?_⟩
        exact pu_0 _ _
       intro v_52
       intro h34
       refine brd (fun c35 => ?_) (fun c35 => ?_)
       ·
        refine ⟨by first | omega | (dsimp only; omega), ?_⟩
        refine ⟨by assumption, ?_⟩
        intro n54
        intro q54
        first | (rw [wrI64] at q54; rotate_left 1; · omega) | rw [IntKind.wrap_i64] at q54
        intro ⟨l54, u54⟩
        intro n57
        intro q57
        first | (rw [wrI64] at q57; rotate_left 1; · omega) | rw [IntKind.wrap_i64] at q57
        intro ⟨l57, u57⟩
        refine ⟨by first | omega | (dsimp only; omega), ?_⟩
        intro z60
        intro qz60
        intro n62
        intro q62
        first | (rw [wrI64] at q62; rotate_left 1; · omega) | rw [IntKind.wrap_i64] at q62
        intro ⟨l62, u62⟩
        refine ⟨(v_52.fst + (1 : Nat), z60, v_52.snd.snd.fst, v_52.snd.snd.snd), ?_⟩
        refine ⟨by first | with_reducible rfl | rfl, ?_⟩
        refine ⟨by first | with_reducible rfl | rfl, ?_⟩
        refine ⟨by first | with_reducible rfl | rfl, ?_⟩
        refine ⟨by first | with_reducible rfl | rfl, ?_⟩
        refine ⟨by first | with_reducible rfl | rfl, ?_⟩
        refine ⟨by first | with_reducible rfl | rfl, ?_⟩
        refine ⟨by first | with_reducible rfl | rfl, ?_⟩
        refine ⟨by show n62 = (↑(v_52.fst + (1 : Nat)) : Int); omega, ?_⟩
        refine ⟨by first | with_reducible rfl | rfl, ?_⟩
        refine ⟨?_, ?_⟩
        ·
         refine ⟨by show v_52.fst + (1 : Nat) ≤ half d; omega, ?_⟩
         refine ⟨by first | omega | (dsimp only; omega), ?_⟩
         refine ⟨by show v_52.snd.snd.fst.length = half d; omega, ?_⟩
         refine ⟨by first | omega | (dsimp only; omega), ?_⟩
         refine ⟨by first | omega | (dsimp only; omega), ?_⟩
         have h36 : z60.length = v_52.fst + (1 : Nat) := by
          rw [slo_mul rfl] at q54
          have D := askD_0 (BQ.h h34.2.2.2.2.2.2.1).choose_spec.1.a
          have e : n57 = slo d v_52.snd.snd.snd + (v_52.fst : Int) := by omega
          exact (pu_step h34.2.2.2.2.2.2.2 h34.2.2.2.2.2.1 e (by rw [Int.toNat_natCast]; rfl) qz60).2
         refine ⟨h36, ?_⟩
         have h37 : BQ d m l v_52.snd.snd.snd v_52.snd.snd.fst := by
          exact h34.2.2.2.2.2.2.1
         refine ⟨h37, ?_⟩
         rw [slo_mul rfl] at q54
         have D := askD_0 (BQ.h h34.2.2.2.2.2.2.1).choose_spec.1.a
         have e : n57 = slo d v_52.snd.snd.snd + (v_52.fst : Int) := by omega
         exact (pu_step h34.2.2.2.2.2.2.2 h34.2.2.2.2.2.1 e (by rw [Int.toNat_natCast]; rfl) qz60).1
        exact by show half d - (v_52.fst + (1 : Nat)) < half d - v_52.fst; omega
       ·
        exact hk.2 _ _ (pt_f h34.2.2.2.2.2.2.1 h34.2.2.2.2.2.2.2 (by omega)) h34.2.2.2.2.2.1
     intro h38
     refine ⟨by first | omega | (dsimp only; omega), ?_⟩
     refine ⟨by first | omega | (dsimp only; omega), ?_⟩
     intro n66
     intro q66
     intro ⟨l66, u66⟩
     refine ⟨?_, ?_⟩
     ·
      refine ⟨by first | omega | (dsimp only; omega), ?_⟩
      refine ⟨by first | omega | (dsimp only; omega), ?_⟩
      refine ⟨?_, ?_⟩
      ·
       refine ⟨by first | omega | (dsimp only; omega), ?_⟩
       refine ⟨by first | omega | (dsimp only; omega), ?_⟩
       exact by omega
      intro r_69
      intro h39
      intro ⟨a40, b40⟩
      refine ⟨(r_69, (1 : Int)), ?_⟩
      refine ⟨by show n19 = (↑(half d) : Int); omega, ?_⟩
      refine ⟨by first | with_reducible rfl | rfl, ?_⟩
      refine ⟨by first | with_reducible rfl | rfl, ?_⟩
      refine ⟨by first | with_reducible rfl | rfl, ?_⟩
      refine ⟨by first | with_reducible rfl | rfl, ?_⟩
      refine ⟨by first | omega | (dsimp only; omega), ?_⟩
      refine ⟨by first | omega | (dsimp only; omega), ?_⟩
      refine ⟨by exact ⟨by assumption, by assumption⟩, ?_⟩
      refine ⟨by first | omega | (dsimp only; omega), ?_⟩
      exact by show PQ d m l r_69 (1 : Int); omega
     intro v_72
     intro h41
     intro n74
     intro q74
     intro ⟨l74, u74⟩
     refine brd (fun c42 => ?_) (fun c42 => ?_)
     ·
      exfalso; omega
     ·
      exfalso; omega
    ·
     exfalso; omega
   ·
    simp at c18
    refine brd (fun c43 => ?_) (fun c43 => ?_)
    ·
     refine ⟨by exact ⟨by assumption, by assumption⟩, ?_⟩
     refine ⟨?_, ?_⟩
     ·
      intro h44
      refine ⟨by first | omega | (dsimp only; omega), ?_⟩
      refine ⟨by first | omega | (dsimp only; omega), ?_⟩
      intro n130
      intro q130
      intro ⟨l130, u130⟩
      refine ⟨?_, ?_⟩
      ·
       refine ⟨by first | omega | (dsimp only; omega), ?_⟩
       refine ⟨by first | omega | (dsimp only; omega), ?_⟩
       refine ⟨?_, ?_⟩
       ·
        refine ⟨by first | omega | (dsimp only; omega), ?_⟩
        refine ⟨by first | omega | (dsimp only; omega), ?_⟩
        exact by omega
       intro r_133
       intro h45
       intro ⟨a46, b46⟩
       refine ⟨(r_133, (0 : Int)), ?_⟩
       refine ⟨by show n19 = (↑(half d) : Int); omega, ?_⟩
       refine ⟨by first | with_reducible rfl | rfl, ?_⟩
       refine ⟨by first | with_reducible rfl | rfl, ?_⟩
       refine ⟨by first | with_reducible rfl | rfl, ?_⟩
       refine ⟨by first | with_reducible rfl | rfl, ?_⟩
       refine ⟨by first | omega | (dsimp only; omega), ?_⟩
       refine ⟨by first | omega | (dsimp only; omega), ?_⟩
       refine ⟨by exact ⟨by assumption, by assumption⟩, ?_⟩
       refine ⟨by first | omega | (dsimp only; omega), ?_⟩
       exact by show PQ d m l r_133 (0 : Int); omega
      intro v_136
      intro h47
      intro n138
      intro q138
      intro ⟨l138, u138⟩
      refine brd (fun c48 => ?_) (fun c48 => ?_)
      ·
       exfalso; omega
      ·
       exfalso; omega
     intro h49
     refine ⟨by first | omega | (dsimp only; omega), ?_⟩
     refine ⟨by first | omega | (dsimp only; omega), ?_⟩
     intro n164
     intro q164
     intro ⟨l164, u164⟩
     refine ⟨?_, ?_⟩
     ·
      refine ⟨by first | omega | (dsimp only; omega), ?_⟩
      refine ⟨by first | omega | (dsimp only; omega), ?_⟩
      refine ⟨?_, ?_⟩
      ·
       have h50 : B64 b0_9 := by
        rw [h6.a.b]; exact slot_b64 h5 (by omega)
       refine ⟨h50, ?_⟩
       refine ⟨by first | omega | (dsimp only; omega), ?_⟩
       exact by omega
      intro r_167
      intro h51
      intro ⟨a52, b52⟩
      refine ⟨(r_167, (0 : Int)), ?_⟩
      refine ⟨by show n19 = (↑(half d) : Int); omega, ?_⟩
      refine ⟨by first | with_reducible rfl | rfl, ?_⟩
      refine ⟨by first | with_reducible rfl | rfl, ?_⟩
      refine ⟨by first | with_reducible rfl | rfl, ?_⟩
      refine ⟨by first | with_reducible rfl | rfl, ?_⟩
      refine ⟨?_, ?_⟩
      ·
       have h53 : (1 : Nat) ≤ half d := by
        have := h5.in; omega
       refine ⟨h53, ?_⟩
       have := h5.in; omega
      refine ⟨by first | omega | (dsimp only; omega), ?_⟩
      refine ⟨by exact ⟨by assumption, by assumption⟩, ?_⟩
      refine ⟨by first | omega | (dsimp only; omega), ?_⟩
      have eb : blkE 1 m l (half d : Int) = 0 := by rw [show (half d : Int) = n19 by omega, ← h11]; exact c15
      rw [q164] at h51
      exact pq_of h5 (by omega) eb (h6.cd1 h16 h49) rfl h6.a.b h51
     intro v_170
     intro h54
     intro n172
     intro q172
     intro ⟨l172, u172⟩
     refine brd (fun c55 => ?_) (fun c55 => ?_)
     ·
      exact hk.1 _ (pt_d h54.2.2.2.2 (by omega)) (by decide)
     ·
      refine ⟨?_, ?_⟩
      ·
       refine ⟨by first | omega | (dsimp only; omega), ?_⟩
       refine ⟨by first | omega | (dsimp only; omega), ?_⟩
       exact by omega
      intro e_175
      intro bl_176
      intro h56
      intro h57
      intro ⟨a58, b58⟩
      intro h59
      intro n181
      intro q181
      intro ⟨l181, u181⟩
      refine ⟨?_, ?_⟩
      ·
       refine ⟨((0 : Nat), [], bl_176, v_170.snd), ?_⟩
       have h60 : e_175 = (0 : Int) := by
        rw [h56]
        exact blkE_gen (g := v_170.fst) h54.2.2.2.2.b (by omega)
       refine ⟨h60, ?_⟩
       refine ⟨by first | with_reducible rfl | rfl, ?_⟩
       refine ⟨by first | with_reducible rfl | rfl, ?_⟩
       refine ⟨by first | with_reducible rfl | rfl, ?_⟩
       refine ⟨by first | with_reducible rfl | rfl, ?_⟩
       refine ⟨by first | with_reducible rfl | rfl, ?_⟩
       refine ⟨by show n181 = (↑bl_176.length : Int); assumption, ?_⟩
       refine ⟨by show (0 : Int) = (↑(0 : Nat) : Int); omega, ?_⟩
       refine ⟨by first | with_reducible rfl | rfl, ?_⟩
       refine ⟨by show (0 : Nat) ≤ half d; omega, ?_⟩
       refine ⟨by first | omega | (dsimp only; omega), ?_⟩
       refine ⟨by show bl_176.length = half d; omega, ?_⟩
       refine ⟨by first | omega | (dsimp only; omega), ?_⟩
       refine ⟨?_, ?_⟩
       ·
        have h61 : (0 : Int) ≤ slo d v_170.snd := by
         have D := askD_0 h54.2.2.2.2.a
         have := slo_in D (i := v_170.snd) (by omega)
         try dsimp only
         omega
        refine ⟨h61, ?_⟩
        have D := askD_0 h54.2.2.2.2.a
        have := slo_in D (i := v_170.snd) (by omega)
        try dsimp only
        omega
       refine ⟨by first | with_reducible rfl | rfl, ?_⟩
       have h62 : BQ d m l v_170.snd bl_176 := by
        exact ⟨_, h54.2.2.2.2, by omega, h57⟩
       refine ⟨h62, ?_⟩
       exact pu_0 _ _
      intro v_184
      intro h63
      refine brd (fun c64 => ?_) (fun c64 => ?_)
      ·
       refine ⟨by first | omega | (dsimp only; omega), ?_⟩
       refine ⟨by assumption, ?_⟩
       intro n186
       intro q186
       first | (rw [wrI64] at q186; rotate_left 1; · omega) | rw [IntKind.wrap_i64] at q186
       intro ⟨l186, u186⟩
       intro n189
       intro q189
       first | (rw [wrI64] at q189; rotate_left 1; · omega) | rw [IntKind.wrap_i64] at q189
       intro ⟨l189, u189⟩
       refine ⟨by first | omega | (dsimp only; omega), ?_⟩
       intro z192
       intro qz192
       intro n194
       intro q194
       first | (rw [wrI64] at q194; rotate_left 1; · omega) | rw [IntKind.wrap_i64] at q194
       intro ⟨l194, u194⟩
       refine ⟨(v_184.fst + (1 : Nat), z192, v_184.snd.snd.fst, v_184.snd.snd.snd), ?_⟩
       refine ⟨by first | with_reducible rfl | rfl, ?_⟩
       refine ⟨by first | with_reducible rfl | rfl, ?_⟩
       refine ⟨by first | with_reducible rfl | rfl, ?_⟩
       refine ⟨by first | with_reducible rfl | rfl, ?_⟩
       refine ⟨by first | with_reducible rfl | rfl, ?_⟩
       refine ⟨by first | with_reducible rfl | rfl, ?_⟩
       refine ⟨by first | with_reducible rfl | rfl, ?_⟩
       refine ⟨by show n194 = (↑(v_184.fst + (1 : Nat)) : Int); omega, ?_⟩
       refine ⟨by first | with_reducible rfl | rfl, ?_⟩
       refine ⟨?_, ?_⟩
       ·
        refine ⟨by show v_184.fst + (1 : Nat) ≤ half d; omega, ?_⟩
        refine ⟨by first | omega | (dsimp only; omega), ?_⟩
        refine ⟨by show v_184.snd.snd.fst.length = half d; omega, ?_⟩
        refine ⟨by first | omega | (dsimp only; omega), ?_⟩
        refine ⟨by first | omega | (dsimp only; omega), ?_⟩
        have h65 : z192.length = v_184.fst + (1 : Nat) := by
         rw [slo_mul rfl] at q186
         have D := askD_0 (BQ.h h63.2.2.2.2.2.2.1).choose_spec.1.a
         have e : n189 = slo d v_184.snd.snd.snd + (v_184.fst : Int) := by omega
         exact (pu_step h63.2.2.2.2.2.2.2 h63.2.2.2.2.2.1 e (by rw [Int.toNat_natCast]; rfl) qz192).2
        refine ⟨h65, ?_⟩
        have h66 : BQ d m l v_184.snd.snd.snd v_184.snd.snd.fst := by
         exact h63.2.2.2.2.2.2.1
        refine ⟨h66, ?_⟩
        rw [slo_mul rfl] at q186
        have D := askD_0 (BQ.h h63.2.2.2.2.2.2.1).choose_spec.1.a
        have e : n189 = slo d v_184.snd.snd.snd + (v_184.fst : Int) := by omega
        exact (pu_step h63.2.2.2.2.2.2.2 h63.2.2.2.2.2.1 e (by rw [Int.toNat_natCast]; rfl) qz192).1
       exact by show half d - (v_184.fst + (1 : Nat)) < half d - v_184.fst; omega
      ·
       exact hk.2 _ _ (pt_f h63.2.2.2.2.2.2.1 h63.2.2.2.2.2.2.2 (by omega)) h63.2.2.2.2.2.1
    ·
     refine ⟨?_, ?_⟩
     ·
      refine ⟨by first | omega | (dsimp only; omega), ?_⟩
      refine ⟨by first | omega | (dsimp only; omega), ?_⟩
      refine ⟨?_, ?_⟩
      ·
       have h67 : B64 b0_9 := by
        rw [h6.a.b]; exact slot_b64 h5 (by omega)
       refine ⟨h67, ?_⟩
       refine ⟨by first | omega | (dsimp only; omega), ?_⟩
       exact by omega
      intro r_197
      intro h68
      intro ⟨a69, b69⟩
      refine ⟨(r_197, (0 : Int)), ?_⟩
      refine ⟨by show n19 = (↑(half d) : Int); omega, ?_⟩
      refine ⟨by first | with_reducible rfl | rfl, ?_⟩
      refine ⟨by first | with_reducible rfl | rfl, ?_⟩
      refine ⟨by first | with_reducible rfl | rfl, ?_⟩
      refine ⟨by first | with_reducible rfl | rfl, ?_⟩
      refine ⟨?_, ?_⟩
      ·
       have h70 : (1 : Nat) ≤ half d := by
        have := h5.in; omega
       refine ⟨h70, ?_⟩
       have := h5.in; omega
      refine ⟨by first | omega | (dsimp only; omega), ?_⟩
      refine ⟨by exact ⟨by assumption, by assumption⟩, ?_⟩
      refine ⟨by first | omega | (dsimp only; omega), ?_⟩
      have eb : blkE 1 m l (half d : Int) = 0 := by rw [show (half d : Int) = n19 by omega, ← h11]; exact c15
      exact pq_of h5 (by omega) eb (h6.cd2 h16 (by omega)) rfl h6.a.b h68
     intro v_200
     intro h71
     intro n202
     intro q202
     intro ⟨l202, u202⟩
     refine brd (fun c72 => ?_) (fun c72 => ?_)
     ·
      exact hk.1 _ (pt_d h71.2.2.2.2 (by omega)) (by decide)
     ·
      refine ⟨?_, ?_⟩
      ·
       refine ⟨by first | omega | (dsimp only; omega), ?_⟩
       refine ⟨by first | omega | (dsimp only; omega), ?_⟩
       exact by omega
      intro e_205
      intro bl_206
      intro h73
      intro h74
      intro ⟨a75, b75⟩
      intro h76
      intro n211
      intro q211
      intro ⟨l211, u211⟩
      refine ⟨?_, ?_⟩
      ·
       refine ⟨((0 : Nat), [], bl_206, v_200.snd), ?_⟩
       have h77 : e_205 = (0 : Int) := by
        rw [h73]
        exact blkE_gen (g := v_200.fst) h71.2.2.2.2.b (by omega)
       refine ⟨h77, ?_⟩
       refine ⟨by first | with_reducible rfl | rfl, ?_⟩
       refine ⟨by first | with_reducible rfl | rfl, ?_⟩
       refine ⟨by first | with_reducible rfl | rfl, ?_⟩
       refine ⟨by first | with_reducible rfl | rfl, ?_⟩
       refine ⟨by first | with_reducible rfl | rfl, ?_⟩
       refine ⟨by show n211 = (↑bl_206.length : Int); assumption, ?_⟩
       refine ⟨by show (0 : Int) = (↑(0 : Nat) : Int); omega, ?_⟩
       refine ⟨by first | with_reducible rfl | rfl, ?_⟩
       refine ⟨by show (0 : Nat) ≤ half d; omega, ?_⟩
       refine ⟨by first | omega | (dsimp only; omega), ?_⟩
       refine ⟨by show bl_206.length = half d; omega, ?_⟩
       refine ⟨by first | omega | (dsimp only; omega), ?_⟩
       refine ⟨?_, ?_⟩
       ·
        have h78 : (0 : Int) ≤ slo d v_200.snd := by
         have D := askD_0 h71.2.2.2.2.a
         have := slo_in D (i := v_200.snd) (by omega)
         try dsimp only
         omega
        refine ⟨h78, ?_⟩
        have D := askD_0 h71.2.2.2.2.a
        have := slo_in D (i := v_200.snd) (by omega)
        try dsimp only
        omega
       refine ⟨by first | with_reducible rfl | rfl, ?_⟩
       have h79 : BQ d m l v_200.snd bl_206 := by
        exact ⟨_, h71.2.2.2.2, by omega, h74⟩
       refine ⟨h79, ?_⟩
       exact pu_0 _ _
      intro v_214
      intro h80
      refine brd (fun c81 => ?_) (fun c81 => ?_)
      ·
       refine ⟨by first | omega | (dsimp only; omega), ?_⟩
       refine ⟨by assumption, ?_⟩
       intro n216
       intro q216
       first | (rw [wrI64] at q216; rotate_left 1; · omega) | rw [IntKind.wrap_i64] at q216
       intro ⟨l216, u216⟩
       intro n219
       intro q219
       first | (rw [wrI64] at q219; rotate_left 1; · omega) | rw [IntKind.wrap_i64] at q219
       intro ⟨l219, u219⟩
       refine ⟨by first | omega | (dsimp only; omega), ?_⟩
       intro z222
       intro qz222
       intro n224
       intro q224
       first | (rw [wrI64] at q224; rotate_left 1; · omega) | rw [IntKind.wrap_i64] at q224
       intro ⟨l224, u224⟩
       refine ⟨(v_214.fst + (1 : Nat), z222, v_214.snd.snd.fst, v_214.snd.snd.snd), ?_⟩
       refine ⟨by first | with_reducible rfl | rfl, ?_⟩
       refine ⟨by first | with_reducible rfl | rfl, ?_⟩
       refine ⟨by first | with_reducible rfl | rfl, ?_⟩
       refine ⟨by first | with_reducible rfl | rfl, ?_⟩
       refine ⟨by first | with_reducible rfl | rfl, ?_⟩
       refine ⟨by first | with_reducible rfl | rfl, ?_⟩
       refine ⟨by first | with_reducible rfl | rfl, ?_⟩
       refine ⟨by show n224 = (↑(v_214.fst + (1 : Nat)) : Int); omega, ?_⟩
       refine ⟨by first | with_reducible rfl | rfl, ?_⟩
       refine ⟨?_, ?_⟩
       ·
        refine ⟨by show v_214.fst + (1 : Nat) ≤ half d; omega, ?_⟩
        refine ⟨by first | omega | (dsimp only; omega), ?_⟩
        refine ⟨by show v_214.snd.snd.fst.length = half d; omega, ?_⟩
        refine ⟨by first | omega | (dsimp only; omega), ?_⟩
        refine ⟨by first | omega | (dsimp only; omega), ?_⟩
        have h82 : z222.length = v_214.fst + (1 : Nat) := by
         rw [slo_mul rfl] at q216
         have D := askD_0 (BQ.h h80.2.2.2.2.2.2.1).choose_spec.1.a
         have e : n219 = slo d v_214.snd.snd.snd + (v_214.fst : Int) := by omega
         exact (pu_step h80.2.2.2.2.2.2.2 h80.2.2.2.2.2.1 e (by rw [Int.toNat_natCast]; rfl) qz222).2
        refine ⟨h82, ?_⟩
        have h83 : BQ d m l v_214.snd.snd.snd v_214.snd.snd.fst := by
         exact h80.2.2.2.2.2.2.1
        refine ⟨h83, ?_⟩
        rw [slo_mul rfl] at q216
        have D := askD_0 (BQ.h h80.2.2.2.2.2.2.1).choose_spec.1.a
        have e : n219 = slo d v_214.snd.snd.snd + (v_214.fst : Int) := by omega
        exact (pu_step h80.2.2.2.2.2.2.2 h80.2.2.2.2.2.1 e (by rw [Int.toNat_natCast]; rfl) qz222).1
       exact by show half d - (v_214.fst + (1 : Nat)) < half d - v_214.fst; omega
      ·
       exact hk.2 _ _ (pt_f h80.2.2.2.2.2.2.1 h80.2.2.2.2.2.2.2 (by omega)) h80.2.2.2.2.2.1

theorem putz_ok : Holds Try.prog 19 putzS := by
  refine fn_sound (env := { mkEnv G1 with mode := md [(16000, 2)] }) (tab_ok G1_ok) Try.func19 Try.call19 fun args k h => ?_
  match args, h with
  | [.agg [.sl 0 d], .int .u8 m, .sl 10 l], h => exact ⟨by kernel_rfl, putzLoops d m l, putzCuts d m l, .cast (by kernel_rfl) (putz_vc d m l h.1 k h.2)⟩
set_option maxHeartbeats 2000000 in
theorem sameP_vc (c : Int) (o : Int) (s : List Int) (c' : Int) (o' : Int) (s' : List Int) (k : AV → List (Option Blk) → List Blk → Prop) (hk : ∀ (r : Bool), (r = true ↔ c = c' ∧ o = o' ∧ s = s') → k (AV.bool r) [] []) :
 ∀ (n1 : Int),
 (n1 = c) →
 ((-9223372036854775808 : Int) ≤ n1 ∧ n1 ≤ (9223372036854775807 : Int)) →
 ∀ (n4 : Int),
 (n4 = c') →
 ((-9223372036854775808 : Int) ≤ n4 ∧ n4 ≤ (9223372036854775807 : Int)) →
 ∀ (n7 : Int),
 (n7 = o) →
 ∀ (n9 : Int),
 (n9 = o') →
 br (bif n1 == n4 then n7 == n9 else false)
 (∀ (r_11 : Bool),
  (r_11 = true ↔ s = s') →
  (k (AV.bool (bif true then r_11 else false)) [] []))
 ((false = false) ∧
  (k (AV.bool false) [] [])) := by
 intro n1
 intro q1
 intro ⟨l1, u1⟩
 intro n4
 intro q4
 intro ⟨l4, u4⟩
 intro n7
 intro q7
 intro n9
 intro q9
 refine br_intro (fun c1 => ?_) (fun c1 => ?_)
 ·
  simp at c1
  intro r_11
  intro h2
  refine hk _ ?_
  rw [cond_true, h2]
  constructor
  ·
   intro e; exact ⟨by omega, by omega, e⟩
  ·
   rintro ⟨-, -, e⟩; exact e
 ·
  simp at c1
  refine ⟨by with_reducible rfl, ?_⟩
  refine hk false ⟨fun e => (by cases e), ?_⟩
  rintro ⟨e1, e2, -⟩
  exact absurd (show n7 = n9 by omega) (c1 (by omega))

theorem sameP_ok : Holds Try.prog 52 samePS := by
  refine fn_sound (env := mkEnv G3a) (tab_ok G3a_ok) Try.func52 Try.call52 fun args k h => ?_
  match args, h with
  | [.agg [.int .i64 c, .int .i64 o, .sl 1 s], .agg [.int .i64 c', .int .i64 o', .sl 1 s']], h => exact ⟨by kernel_rfl, fun _ _ => none, fun _ _ => none, .cast (by kernel_rfl) (sameP_vc c o s c' o' s' k h)⟩
theorem G3b_ok : TabOk Try.prog G3b := ⟨sameP_ok, trivial⟩
set_option maxHeartbeats 2000000 in
theorem samePl_vc (a : List Plan) (b : List Plan) (k : AV → List (Option Blk) → List Blk → Prop) (hk : ∀ (r : Bool), (r = true ↔ a = b) → k (AV.bool r) [] []) :
 ∀ (n1 : Int),
 (n1 = (↑a.length : Int)) →
 ((-9223372036854775808 : Int) ≤ n1 ∧ n1 ≤ (9223372036854775807 : Int)) →
 ∀ (n4 : Int),
 (n4 = (↑b.length : Int)) →
 ((-9223372036854775808 : Int) ≤ n4 ∧ n4 ≤ (9223372036854775807 : Int)) →
 br (n1 != n4)
 ((k (AV.bool false) [] []))
 ((
  ∃ (v : Nat),
  (a = a) ∧
  (b = b) ∧
  ((0 : Int) = (↑v : Int)) ∧
  (v ≤ a.length) ∧
  (a.length = b.length) ∧
  (eqP a b v)) ∧
  ∀ (v_7 : Nat),
  (v_7 ≤ a.length ∧ a.length = b.length ∧ eqP a b v_7) →
  ∀ (n9 : Int),
  (n9 = (↑a.length : Int)) →
  ((-9223372036854775808 : Int) ≤ n9 ∧ n9 ≤ (9223372036854775807 : Int)) →
  br (decide ((↑v_7 : Int) < n9))
  (((0 : Int) ≤ (↑v_7 : Int)) ∧
   ((↑v_7 : Int) < (↑a.length : Int)) ∧
   ((0 : Int) ≤ (↑v_7 : Int)) ∧
   ((↑v_7 : Int) < (↑b.length : Int)) ∧
   ∀ (r_12 : Bool),
   (r_12 = true ↔ (a.getD (↑v_7 : Int).toNat (dflt (10 : Nat))).cycle = (b.getD (↑v_7 : Int).toNat (dflt (10 : Nat))).cycle ∧ (a.getD (↑v_7 : Int).toNat (dflt (10 : Nat))).offset = (b.getD (↑v_7 : Int).toNat (dflt (10 : Nat))).offset ∧ (a.getD (↑v_7 : Int).toNat (dflt (10 : Nat))).splits = (b.getD (↑v_7 : Int).toNat (dflt (10 : Nat))).splits) →
   br (!r_12)
   ((k (AV.bool false) [] []))
   (∀ (n14 : Int),
    (n14 = IntKind.i64.wrap ((↑v_7 : Int) + (1 : Int))) →
    ((-9223372036854775808 : Int) ≤ n14 ∧ n14 ≤ (9223372036854775807 : Int)) →
    ∃ (v' : Nat),
    (a = a) ∧
    (b = b) ∧
    (n14 = (↑v' : Int)) ∧
    (
    (v' ≤ a.length) ∧
    (a.length = b.length) ∧
    (eqP a b v')) ∧
    (a.length - v' < a.length - v_7)))
  ((k (AV.bool true) [] []))) := by
 intro n1
 intro q1
 intro ⟨l1, u1⟩
 intro n4
 intro q4
 intro ⟨l4, u4⟩
 refine br_intro (fun c1 => ?_) (fun c1 => ?_)
 ·
  simp at c1
  refine hk false ⟨fun e => (by cases e), fun e => ?_⟩
  subst e
  exact absurd (by omega) c1
 ·
  simp at c1
  refine ⟨?_, ?_⟩
  ·
   refine ⟨Int.toNat (0 : Int), ?_⟩
   refine ⟨by first | with_reducible rfl | rfl, ?_⟩
   refine ⟨by first | with_reducible rfl | rfl, ?_⟩
   refine ⟨by show (0 : Int) = (↑(Int.toNat (0 : Int)) : Int); omega, ?_⟩
   refine ⟨by show Int.toNat (0 : Int) ≤ a.length; omega, ?_⟩
   refine ⟨by show a.length = b.length; omega, ?_⟩
   exact eqp_0 _ _
  intro v_7
  intro h2
  intro n9
  intro q9
  intro ⟨l9, u9⟩
  refine brd (fun c3 => ?_) (fun c3 => ?_)
  ·
   refine ⟨by first | omega | (dsimp only; omega), ?_⟩
   refine ⟨by first | omega | (dsimp only; omega), ?_⟩
   refine ⟨by first | omega | (dsimp only; omega), ?_⟩
   refine ⟨by first | omega | (dsimp only; omega), ?_⟩
   intro r_12
   intro h4
   refine br_intro (fun c5 => ?_) (fun c5 => ?_)
   ·
    simp at c5
    refine hk false ⟨fun e => (by cases e), fun e => ?_⟩
    subst e
    rw [h4.2 ⟨rfl, rfl, rfl⟩] at c5
    cases c5
   ·
    simp at c5
    intro n14
    intro q14
    first | (rw [wrI64] at q14; rotate_left 1; · omega) | rw [IntKind.wrap_i64] at q14
    intro ⟨l14, u14⟩
    refine ⟨n14.toNat, ?_⟩
    refine ⟨by first | with_reducible rfl | rfl, ?_⟩
    refine ⟨by first | with_reducible rfl | rfl, ?_⟩
    refine ⟨by show n14 = (↑n14.toNat : Int); omega, ?_⟩
    refine ⟨?_, ?_⟩
    ·
     refine ⟨by show n14.toNat ≤ a.length; omega, ?_⟩
     refine ⟨by show a.length = b.length; omega, ?_⟩
     rw [show n14.toNat = v_7 + 1 by omega]
     rw [Int.toNat_natCast] at h4
     obtain ⟨x1, x2, x3⟩ := h4.1 c5
     exact eqp_step (dflt 10) h2.2.2 (by omega) (by omega) (plan_eq x1 x2 x3)
    exact by show a.length - n14.toNat < a.length - v_7; omega
  ·
   exact hk true ⟨fun _ => eqp_all h2.2.2 (by omega) (by omega), fun _ => rfl⟩

theorem samePl_ok : Holds Try.prog 25 samePlS := by
  refine fn_sound (env := mkEnv G3b) (tab_ok G3b_ok) Try.func25 Try.call25 fun args k h => ?_
  match args, h with
  | [.sl 10 a, .sl 10 b], h => exact ⟨by kernel_rfl, samePlLoops a b, fun _ _ => none, .cast (by kernel_rfl) (samePl_vc a b k h)⟩
set_option maxHeartbeats 2000000 in
theorem great_vc (l : List Plan) (k : AV → List (Option Blk) → List Blk → Prop) (hk : ∀ (r : Bool), k (AV.bool r) [] []) :
 ∀ (n1 : Int),
 (n1 = (0 : Int)) →
 ((-9223372036854775808 : Int) ≤ n1 ∧ n1 ≤ (9223372036854775807 : Int)) →
 ∀ (n4 : Int),
 (n4 = (0 : Int)) →
 ∀ (n6 : Int),
 (n6 = (0 : Int)) →
 ∀ (n8 : Int),
 (n8 = (0 : Int)) →
 ∀ (n10 : Int),
 (n10 = (0 : Int)) →
 ∀ (n12 : Int),
 (n12 = (↑l.length : Int)) →
 br (bif bif bif bif bif decide (n1 > (40 : Int)) then true else decide (n4 > (40 : Int)) then true else decide (n6 > (40 : Int)) then true else decide (n8 > (40 : Int)) then true else decide (n10 > (60 : Int)) then true else decide (n12 > (40 : Int)))
 ((k (AV.bool true) [] []))
 ((
  ∃ (v : Nat),
  ((0 : Int) = (0 : Int)) ∧
  ((0 : Int) = (0 : Int)) ∧
  ((0 : Int) = (0 : Int)) ∧
  ((0 : Int) = (0 : Int)) ∧
  ((0 : Int) = (0 : Int)) ∧
  ((0 : Int) = (0 : Int)) ∧
  ((0 : Int) = (0 : Int)) ∧
  (l = l) ∧
  (l.length ≤ (40 : Nat)) ∧
  (v = (0 : Nat))) ∧
  ∀ (v_14 : Nat),
  (l.length ≤ (40 : Nat) ∧ v_14 = (0 : Nat)) →
  ∀ (n15 : Int),
  (n15 = (0 : Int)) →
  ((-9223372036854775808 : Int) ≤ n15 ∧ n15 ≤ (9223372036854775807 : Int)) →
  br (decide ((0 : Int) < n15))
  ((False))
  ((
   ∃ (v : Nat),
   ((0 : Int) = (↑v : Int)) ∧
   ((0 : Int) = (0 : Int)) ∧
   ((0 : Int) = (0 : Int)) ∧
   ((0 : Int) = (0 : Int)) ∧
   ((0 : Int) = (0 : Int)) ∧
   ((0 : Int) = (0 : Int)) ∧
   ((0 : Int) = (0 : Int)) ∧
   (l = l) ∧
   (v ≤ l.length) ∧
   (l.length ≤ (40 : Nat))) ∧
   ∀ (v_18 : Nat),
   (v_18 ≤ l.length ∧ l.length ≤ (40 : Nat)) →
   ∀ (n20 : Int),
   (n20 = (↑l.length : Int)) →
   ((-9223372036854775808 : Int) ≤ n20 ∧ n20 ≤ (9223372036854775807 : Int)) →
   br (decide ((↑v_18 : Int) < n20))
   (((0 : Int) ≤ (↑v_18 : Int)) ∧
    ((↑v_18 : Int) < (↑l.length : Int)) ∧
    ∀ (n23 : Int),
    (n23 = (↑(l.getD (↑v_18 : Int).toNat (dflt (10 : Nat))).splits.length : Int)) →
    ((-9223372036854775808 : Int) ≤ n23 ∧ n23 ≤ (9223372036854775807 : Int)) →
    br (decide (n23 > (40 : Int)))
    ((k (AV.bool true) [] []))
    (∀ (n26 : Int),
     (n26 = IntKind.i64.wrap ((↑v_18 : Int) + (1 : Int))) →
     ((-9223372036854775808 : Int) ≤ n26 ∧ n26 ≤ (9223372036854775807 : Int)) →
     ∃ (v' : Nat),
     (n26 = (↑v' : Int)) ∧
     ((0 : Int) = (0 : Int)) ∧
     ((0 : Int) = (0 : Int)) ∧
     ((0 : Int) = (0 : Int)) ∧
     ((0 : Int) = (0 : Int)) ∧
     ((0 : Int) = (0 : Int)) ∧
     ((0 : Int) = (0 : Int)) ∧
     (l = l) ∧
     (
     (v' ≤ l.length) ∧
     (l.length ≤ (40 : Nat))) ∧
     (l.length - v' < l.length - v_18)))
   ((k (AV.bool false) [] [])))) := by
 intro n1
 intro q1
 intro ⟨l1, u1⟩
 intro n4
 intro q4
 intro n6
 intro q6
 intro n8
 intro q8
 intro n10
 intro q10
 intro n12
 intro q12
 refine br_intro (fun c1 => ?_) (fun c1 => ?_)
 ·
  simp at c1
  exact hk _
 ·
  simp at c1
  refine ⟨?_, ?_⟩
  ·
   refine ⟨(0 : Nat), ?_⟩
   refine ⟨by first | with_reducible rfl | rfl, ?_⟩
   refine ⟨by first | with_reducible rfl | rfl, ?_⟩
   refine ⟨by first | with_reducible rfl | rfl, ?_⟩
   refine ⟨by first | with_reducible rfl | rfl, ?_⟩
   refine ⟨by first | with_reducible rfl | rfl, ?_⟩
   refine ⟨by first | with_reducible rfl | rfl, ?_⟩
   refine ⟨by first | with_reducible rfl | rfl, ?_⟩
   refine ⟨by first | with_reducible rfl | rfl, ?_⟩
   refine ⟨by show l.length ≤ (40 : Nat); omega, ?_⟩
   exact by first | with_reducible rfl | rfl
  intro v_14
  intro ⟨a2, b2⟩
  intro n15
  intro q15
  intro ⟨l15, u15⟩
  refine brd (fun c3 => ?_) (fun c3 => ?_)
  ·
   exfalso; omega
  ·
   refine ⟨?_, ?_⟩
   ·
    refine ⟨Int.toNat (0 : Int), ?_⟩
    refine ⟨by show (0 : Int) = (↑(Int.toNat (0 : Int)) : Int); omega, ?_⟩
    refine ⟨by first | with_reducible rfl | rfl, ?_⟩
    refine ⟨by first | with_reducible rfl | rfl, ?_⟩
    refine ⟨by first | with_reducible rfl | rfl, ?_⟩
    refine ⟨by first | with_reducible rfl | rfl, ?_⟩
    refine ⟨by first | with_reducible rfl | rfl, ?_⟩
    refine ⟨by first | with_reducible rfl | rfl, ?_⟩
    refine ⟨by first | with_reducible rfl | rfl, ?_⟩
    refine ⟨by show Int.toNat (0 : Int) ≤ l.length; omega, ?_⟩
    exact by show l.length ≤ (40 : Nat); assumption
   intro v_18
   intro ⟨a4, b4⟩
   intro n20
   intro q20
   intro ⟨l20, u20⟩
   refine brd (fun c5 => ?_) (fun c5 => ?_)
   ·
    refine ⟨by first | omega | (dsimp only; omega), ?_⟩
    refine ⟨by first | omega | (dsimp only; omega), ?_⟩
    intro n23
    intro q23
    intro ⟨l23, u23⟩
    refine brd (fun c6 => ?_) (fun c6 => ?_)
    ·
     exact hk _
    ·
     intro n26
     intro q26
     first | (rw [wrI64] at q26; rotate_left 1; · omega) | rw [IntKind.wrap_i64] at q26
     intro ⟨l26, u26⟩
     refine ⟨n26.toNat, ?_⟩
     refine ⟨by show n26 = (↑n26.toNat : Int); omega, ?_⟩
     refine ⟨by first | with_reducible rfl | rfl, ?_⟩
     refine ⟨by first | with_reducible rfl | rfl, ?_⟩
     refine ⟨by first | with_reducible rfl | rfl, ?_⟩
     refine ⟨by first | with_reducible rfl | rfl, ?_⟩
     refine ⟨by first | with_reducible rfl | rfl, ?_⟩
     refine ⟨by first | with_reducible rfl | rfl, ?_⟩
     refine ⟨by first | with_reducible rfl | rfl, ?_⟩
     refine ⟨by first | omega | (dsimp only; omega), ?_⟩
     exact by show l.length - n26.toNat < l.length - v_18; omega
   ·
    exact hk _

theorem great_ok : Holds Try.prog 32 greatS := by
  refine fn_sound (env := mkEnv G3a) (tab_ok G3a_ok) Try.func32 Try.call32 fun args k h => ?_
  match args, h with
  | [.agg [.int .i64 0, .nilsl, .nilsl, .nilsl, .nilsl, .nilsl, .int .i64 0, .int .i64 0, .int .i64 0, .int .i64 0, .int .i64 0, .sl 10 l]], h => exact ⟨by kernel_rfl, greatLoops l, fun _ _ => none, .cast (by kernel_rfl) (great_vc l k h)⟩
theorem G3d_ok : TabOk Try.prog G3d := ⟨great_ok, trivial⟩
set_option maxHeartbeats 2000000 in
theorem large_vc (l : List Plan) (k : AV → List (Option Blk) → List Blk → Prop) (hk : ∀ (r : Bool), k (AV.bool r) [] []) :
 ∀ (r_1 : Bool),
 (k (AV.bool r_1) [] []) := by
 intro r_1
 exact hk _

theorem large_ok : Holds Try.prog 10 largeS := by
  refine fn_sound (env := mkEnv G3d) (tab_ok G3d_ok) Try.func10 Try.call10 fun args k h => ?_
  match args, h with
  | [.sl 10 l], h => exact ⟨by kernel_rfl, fun _ _ => none, fun _ _ => none, .cast (by kernel_rfl) (large_vc l k h)⟩
theorem G3e_ok : TabOk Try.prog G3e := ⟨large_ok, trivial⟩
set_option maxHeartbeats 2000000 in
theorem much_vc (d : List UInt8) (l : List Plan) (k : AV → List (Option Blk) → List Blk → Prop) (hk : ∀ (r : Bool), (r = false → d.length ≤ (5000 : Nat)) → k (AV.bool r) [] []) :
 ∀ (n1 : Int),
 (n1 = (↑d.length : Int)) →
 ((-9223372036854775808 : Int) ≤ n1 ∧ n1 ≤ (9223372036854775807 : Int)) →
 br (decide (n1 > (5000 : Int)))
 ((true = true) ∧
  (k (AV.bool true) [] []))
 (∀ (r_4 : Bool),
  (k (AV.bool (bif false then true else r_4)) [] [])) := by
 intro n1
 intro q1
 intro ⟨l1, u1⟩
 refine brd (fun c1 => ?_) (fun c1 => ?_)
 ·
  refine ⟨by with_reducible rfl, ?_⟩
  exact hk _ (fun e => by cases e)
 ·
  intro r_4
  exact hk _ (fun _ => by omega)

theorem much_ok : Holds Try.prog 27 muchS := by
  refine fn_sound (env := mkEnv G3e) (tab_ok G3e_ok) Try.func27 Try.call27 fun args k h => ?_
  match args, h with
  | [.agg [.sl 0 d], .sl 10 l], h => exact ⟨by kernel_rfl, fun _ _ => none, fun _ _ => none, .cast (by kernel_rfl) (much_vc d l k h)⟩
theorem formatT_ok : Holds Try.prog 15 formatT := format_up format_ok
theorem zSlotT_ok : Holds Try.prog 21 rSlotT := rSlot_up zSlot_ok
theorem zReadT_ok : Holds Try.prog 17 rReadT := rRead_up zRead_ok
theorem putzT_ok : Holds Try.prog 19 putzT := putz_up putz_ok
end Go.Proofs.Ytcdflgfhkohldaa

