/-
What is kept becomes the blocks that the document tells: the statement answers true for every input.
-/
import Derived.Test.YtcdflgfhkohldaaStT
import Derived.Test.YtcdflgfhkohldaaStZ
import Derived.Test.YtcdflgfhkohldaaEngR
import Derived.Test.YtcdflgfhkohldaaEngY
import Derived.Test.YtcdflgfhkohldaaRows
namespace Go.Proofs.Ytcdflgfhkohldaa
open Go Go.Eng Go.Rw Go.Lk Go.Proofs
open Go.Bk hiding take_step drop_step set_mid
open Go.St hiding take_step
set_option linter.unusedVariables false
def greatS : Eng.Spec := { ro := true, own := [], run := fun args _ k => match args with
  | [.agg [.int .i64 0, .nilsl, .nilsl, .nilsl, .nilsl, .nilsl, .int .i64 0, .int .i64 0, .int .i64 0, .int .i64 0, .int .i64 0, .sl 10 l]] => ∀ r : Bool, k (.bool r) [] []
  | _ => False }
def greatLoops (l : List Plan) : List Nat → Nat → Option LoopAnn := fun _ r => match r with
  | 4 => some { V := Nat, st := fun v => ⟨mk 68 [(1, .ptr 1000 0), (3, .int .i64 0)], [], [(1000, .cells [.int .i64 0, .nilsl, .nilsl, .nilsl, .nilsl, .nilsl, .int .i64 0, .int .i64 0, .int .i64 0, .int .i64 0, .int .i64 0, .sl 10 l])]⟩, I := fun v => l.length ≤ 40 ∧ v = 0, μ := fun v => v }
  | 9 => some { V := Nat, st := fun v => ⟨mk 68 [(1, .ptr 1000 0), (4, .int .i64 v)], [], [(1000, .cells [.int .i64 0, .nilsl, .nilsl, .nilsl, .nilsl, .nilsl, .int .i64 0, .int .i64 0, .int .i64 0, .int .i64 0, .int .i64 0, .sl 10 l])]⟩, I := fun v => v ≤ l.length ∧ l.length ≤ 40, μ := fun v => l.length - v }
  | _ => none
def largeS : Eng.Spec := { ro := true, own := [], run := fun args _ k => match args with
  | [.sl 10 l] => ∀ r : Bool, k (.bool r) [] []
  | _ => False }
def G3a : Tab := [(74, sameIS)]
theorem G3a_ok : TabOk Try.prog G3a := ⟨samei_ok, trivial⟩
def G3d : Tab := [(32, greatS)]
set_option maxHeartbeats 2000000 in
theorem great_vc (l : List Plan) (k : AV → List (Option Blk) → List Blk → Prop) (hk : ∀ (r : Bool), k (AV.bool r) [] []) :
 ∀ (n1 : Int),
 (n1 = (0 : Int)) →
 ((-9223372036854775808 : Int) ≤ n1 ∧ n1 ≤ (9223372036854775807 : Int)) →
 ∀ (n4 : Int),
 (n4 = (0 : Int)) →
 ∀ (n6 : Int),
 (n6 = (0 : Int)) →
 ∀ (n8 : Int),
 (n8 = (0 : Int)) →
 ∀ (n10 : Int),
 (n10 = (0 : Int)) →
 ∀ (n12 : Int),
 (n12 = (↑l.length : Int)) →
 br (bif bif bif bif bif decide (n1 > (40 : Int)) then true else decide (n4 > (40 : Int)) then true else decide (n6 > (40 : Int)) then true else decide (n8 > (40 : Int)) then true else decide (n10 > (60 : Int)) then true else decide (n12 > (40 : Int)))
 ((k (AV.bool true) [] []))
 ((
  ∃ (v : Nat),
  ((0 : Int) = (0 : Int)) ∧
  ((0 : Int) = (0 : Int)) ∧
  ((0 : Int) = (0 : Int)) ∧
  ((0 : Int) = (0 : Int)) ∧
  ((0 : Int) = (0 : Int)) ∧
  ((0 : Int) = (0 : Int)) ∧
  ((0 : Int) = (0 : Int)) ∧
  (l = l) ∧
  (l.length ≤ (40 : Nat)) ∧
  (v = (0 : Nat))) ∧
  ∀ (v_14 : Nat),
  (l.length ≤ (40 : Nat) ∧ v_14 = (0 : Nat)) →
  ∀ (n15 : Int),
  (n15 = (0 : Int)) →
  ((-9223372036854775808 : Int) ≤ n15 ∧ n15 ≤ (9223372036854775807 : Int)) →
  br (decide ((0 : Int) < n15))
  ((False))
  ((
   ∃ (v : Nat),
   ((0 : Int) = (↑v : Int)) ∧
   ((0 : Int) = (0 : Int)) ∧
   ((0 : Int) = (0 : Int)) ∧
   ((0 : Int) = (0 : Int)) ∧
   ((0 : Int) = (0 : Int)) ∧
   ((0 : Int) = (0 : Int)) ∧
   ((0 : Int) = (0 : Int)) ∧
   (l = l) ∧
   (v ≤ l.length) ∧
   (l.length ≤ (40 : Nat))) ∧
   ∀ (v_18 : Nat),
   (v_18 ≤ l.length ∧ l.length ≤ (40 : Nat)) →
   ∀ (n20 : Int),
   (n20 = (↑l.length : Int)) →
   ((-9223372036854775808 : Int) ≤ n20 ∧ n20 ≤ (9223372036854775807 : Int)) →
   br (decide ((↑v_18 : Int) < n20))
   (((0 : Int) ≤ (↑v_18 : Int)) ∧
    ((↑v_18 : Int) < (↑l.length : Int)) ∧
    ∀ (n23 : Int),
    (n23 = (↑(l.getD (↑v_18 : Int).toNat (dflt (10 : Nat))).splits.length : Int)) →
    ((-9223372036854775808 : Int) ≤ n23 ∧ n23 ≤ (9223372036854775807 : Int)) →
    br (decide (n23 > (40 : Int)))
    ((k (AV.bool true) [] []))
    (∀ (n26 : Int),
     (n26 = IntKind.i64.wrap ((↑v_18 : Int) + (1 : Int))) →
     ((-9223372036854775808 : Int) ≤ n26 ∧ n26 ≤ (9223372036854775807 : Int)) →
     ∃ (v' : Nat),
     (n26 = (↑v' : Int)) ∧
     ((0 : Int) = (0 : Int)) ∧
     ((0 : Int) = (0 : Int)) ∧
     ((0 : Int) = (0 : Int)) ∧
     ((0 : Int) = (0 : Int)) ∧
     ((0 : Int) = (0 : Int)) ∧
     ((0 : Int) = (0 : Int)) ∧
     (l = l) ∧
     (
     (v' ≤ l.length) ∧
     (l.length ≤ (40 : Nat))) ∧
     (l.length - v' < l.length - v_18)))
   ((k (AV.bool false) [] [])))) := by
 intro n1
 intro q1
 intro ⟨l1, u1⟩
 intro n4
 intro q4
 intro n6
 intro q6
 intro n8
 intro q8
 intro n10
 intro q10
 intro n12
 intro q12
 refine br_intro (fun c1 => ?_) (fun c1 => ?_)
 ·
  simp at c1
  exact hk _
 ·
  simp at c1
  refine ⟨?_, ?_⟩
  ·
   refine ⟨(0 : Nat), ?_⟩
   refine ⟨by first | with_reducible rfl | rfl, ?_⟩
   refine ⟨by first | with_reducible rfl | rfl, ?_⟩
   refine ⟨by first | with_reducible rfl | rfl, ?_⟩
   refine ⟨by first | with_reducible rfl | rfl, ?_⟩
   refine ⟨by first | with_reducible rfl | rfl, ?_⟩
   refine ⟨by first | with_reducible rfl | rfl, ?_⟩
   refine ⟨by first | with_reducible rfl | rfl, ?_⟩
   refine ⟨by first | with_reducible rfl | rfl, ?_⟩
   refine ⟨by show l.length ≤ (40 : Nat); omega, ?_⟩
   exact by first | with_reducible rfl | rfl
  intro v_14
  intro ⟨a2, b2⟩
  intro n15
  intro q15
  intro ⟨l15, u15⟩
  refine brd (fun c3 => ?_) (fun c3 => ?_)
  ·
   exfalso; omega
  ·
   refine ⟨?_, ?_⟩
   ·
    refine ⟨Int.toNat (0 : Int), ?_⟩
    refine ⟨by show (0 : Int) = (↑(Int.toNat (0 : Int)) : Int); omega, ?_⟩
    refine ⟨by first | with_reducible rfl | rfl, ?_⟩
    refine ⟨by first | with_reducible rfl | rfl, ?_⟩
    refine ⟨by first | with_reducible rfl | rfl, ?_⟩
    refine ⟨by first | with_reducible rfl | rfl, ?_⟩
    refine ⟨by first | with_reducible rfl | rfl, ?_⟩
    refine ⟨by first | with_reducible rfl | rfl, ?_⟩
    refine ⟨by first | with_reducible rfl | rfl, ?_⟩
    refine ⟨by show Int.toNat (0 : Int) ≤ l.length; omega, ?_⟩
    exact by show l.length ≤ (40 : Nat); assumption
   intro v_18
   intro ⟨a4, b4⟩
   intro n20
   intro q20
   intro ⟨l20, u20⟩
   refine brd (fun c5 => ?_) (fun c5 => ?_)
   ·
    refine ⟨by first | omega | (dsimp only; omega), ?_⟩
    refine ⟨by first | omega | (dsimp only; omega), ?_⟩
    intro n23
    intro q23
    intro ⟨l23, u23⟩
    refine brd (fun c6 => ?_) (fun c6 => ?_)
    ·
     exact hk _
    ·
     intro n26
     intro q26
     first | (rw [wrI64] at q26; rotate_left 1; · omega) | rw [IntKind.wrap_i64] at q26
     intro ⟨l26, u26⟩
     refine ⟨n26.toNat, ?_⟩
     refine ⟨by show n26 = (↑n26.toNat : Int); omega, ?_⟩
     refine ⟨by first | with_reducible rfl | rfl, ?_⟩
     refine ⟨by first | with_reducible rfl | rfl, ?_⟩
     refine ⟨by first | with_reducible rfl | rfl, ?_⟩
     refine ⟨by first | with_reducible rfl | rfl, ?_⟩
     refine ⟨by first | with_reducible rfl | rfl, ?_⟩
     refine ⟨by first | with_reducible rfl | rfl, ?_⟩
     refine ⟨by first | with_reducible rfl | rfl, ?_⟩
     refine ⟨by first | omega | (dsimp only; omega), ?_⟩
     exact by show l.length - n26.toNat < l.length - v_18; omega
   ·
    exact hk _

theorem great_ok : Holds Try.prog 32 greatS := by
  refine fn_sound (env := mkEnv G3a) (tab_ok G3a_ok) Try.func32 Try.call32 fun args k h => ?_
  match args, h with
  | [.agg [.int .i64 0, .nilsl, .nilsl, .nilsl, .nilsl, .nilsl, .int .i64 0, .int .i64 0, .int .i64 0, .int .i64 0, .int .i64 0, .sl 10 l]], h => exact ⟨by kernel_rfl, greatLoops l, fun _ _ => none, .cast (by kernel_rfl) (great_vc l k h)⟩
theorem G3d_ok : TabOk Try.prog G3d := ⟨great_ok, trivial⟩
set_option maxHeartbeats 2000000 in
theorem large_vc (l : List Plan) (k : AV → List (Option Blk) → List Blk → Prop) (hk : ∀ (r : Bool), k (AV.bool r) [] []) :
 ∀ (r_1 : Bool),
 (k (AV.bool r_1) [] []) := by
 intro r_1
 exact hk _

theorem large_ok : Holds Try.prog 10 largeS := by
  refine fn_sound (env := mkEnv G3d) (tab_ok G3d_ok) Try.func10 Try.call10 fun args k h => ?_
  match args, h with
  | [.sl 10 l], h => exact ⟨by kernel_rfl, fun _ _ => none, fun _ _ => none, .cast (by kernel_rfl) (large_vc l k h)⟩
def lawBlocks : Eng.Spec := { ro := true, own := [], run := fun args _ k => match args with
  | [.agg [.int .i64 g, .int .u8 m, .sl 10 ps], .int .i64 n] => inK .i64 g ∧ inK .u8 m ∧ inK .i64 n ∧ k (.bool true) [] []
  | _ => False }
structure eqBB (a b : List (List UInt8)) : Prop where
  e : a = b
def lawBlocksLoops : List Nat → Nat → Option LoopAnn := fun _ r => match r with
  | 8 => some { V := Nat × List (List UInt8) × List (List UInt8), st := fun v => ⟨mk 52 [(5, .sl 6 v.2.1), (7, .sl 6 v.2.2), (9, .int .i64 v.1)], [], []⟩, I := fun v => v.1 ≤ v.2.1.length ∧ v.2.1.length ≤ 32 ∧ eqBB v.2.1 v.2.2, μ := fun v => v.2.1.length - v.1 }
  | _ => none
def H7 : Tab := [(10, largeS), (11, blocksT), (12, blocksT)]
theorem H7_ok : TabOk Try.prog H7 := ⟨large_ok, blocksT_ok, rblocksT_ok, trivial⟩
set_option maxHeartbeats 2000000 in
theorem storeBlocks_vc (g : Int) (g0 : (-9223372036854775808 : Int) ≤ g) (g1 : g ≤ (9223372036854775807 : Int)) (m : Int) (m0 : (0 : Int) ≤ m) (m1 : m ≤ (255 : Int)) (ps : List Plan) (n : Int) (n0 : (-9223372036854775808 : Int) ≤ n) (n1 : n ≤ (9223372036854775807 : Int)) (k : AV → List (Option Blk) → List Blk → Prop) (hk : k (AV.bool true) [] []) :
 ∀ (r_1 : Bool),
 br (r_1)
 ((k (AV.bool true) [] []))
 ((
  (
   ((-9223372036854775808 : Int) ≤ g) ∧
   (g ≤ (9223372036854775807 : Int))) ∧
  ((0 : Int) ≤ m) ∧
  (m ≤ (255 : Int))) ∧
  ∀ (e_2 : Int),
  ∀ (bl_3 : List (List UInt8)),
  (e_2 = blkE g m ps n) →
  (bl_3 = blkO g m ps n) →
  ((0 : Int) ≤ e_2 ∧ e_2 ≤ (190 : Int)) →
  ((e_2 = (0 : Int)) →
  (bl_3.length = n.toNat)) →
  (
  (
   ((-9223372036854775808 : Int) ≤ g) ∧
   (g ≤ (9223372036854775807 : Int))) ∧
  ((0 : Int) ≤ m) ∧
  (m ≤ (255 : Int))) ∧
  ∀ (e_8 : Int),
  ∀ (bl_9 : List (List UInt8)),
  (e_8 = blkE g m ps n) →
  (bl_9 = blkO g m ps n) →
  ((0 : Int) ≤ e_8 ∧ e_8 ≤ (190 : Int)) →
  ((e_8 = (0 : Int)) →
  (bl_9.length = n.toNat)) →
  ∀ (n14 : Int),
  (n14 = (↑bl_3.length : Int)) →
  ∀ (n16 : Int),
  (n16 = (↑bl_9.length : Int)) →
  br (bif e_2 != e_8 then true else n14 != n16)
  ((k (AV.bool false) [] []))
  ((
   ∃ (v : Nat × List (List UInt8) × List (List UInt8)),
   (bl_3 = v.snd.fst) ∧
   (bl_9 = v.snd.snd) ∧
   ((0 : Int) = (↑v.fst : Int)) ∧
   (v.fst ≤ v.snd.fst.length) ∧
   (v.snd.fst.length ≤ (32 : Nat)) ∧
   (eqBB v.snd.fst v.snd.snd)) ∧
   ∀ (v_18 : Nat × List (List UInt8) × List (List UInt8)),
   (v_18.fst ≤ v_18.snd.fst.length ∧ v_18.snd.fst.length ≤ (32 : Nat) ∧ eqBB v_18.snd.fst v_18.snd.snd) →
   ∀ (n20 : Int),
   (n20 = (↑v_18.snd.fst.length : Int)) →
   ((-9223372036854775808 : Int) ≤ n20 ∧ n20 ≤ (9223372036854775807 : Int)) →
   br (decide ((↑v_18.fst : Int) < n20))
   (((0 : Int) ≤ (↑v_18.fst : Int)) ∧
    ((↑v_18.fst : Int) < (↑v_18.snd.fst.length : Int)) ∧
    ((0 : Int) ≤ (↑v_18.fst : Int)) ∧
    ((↑v_18.fst : Int) < (↑v_18.snd.snd.length : Int)) ∧
    br (!{ data := (v_18.snd.fst.getD (↑v_18.fst : Int).toNat (dflt (6 : Nat))).toArray : ByteArray }.data.toList == { data := (v_18.snd.snd.getD (↑v_18.fst : Int).toNat (dflt (6 : Nat))).toArray : ByteArray }.data.toList)
    ((k (AV.bool false) [] []))
    (∀ (n23 : Int),
     (n23 = IntKind.i64.wrap ((↑v_18.fst : Int) + (1 : Int))) →
     ((-9223372036854775808 : Int) ≤ n23 ∧ n23 ≤ (9223372036854775807 : Int)) →
     ∃ (v' : Nat × List (List UInt8) × List (List UInt8)),
     (v_18.snd.fst = v'.snd.fst) ∧
     (v_18.snd.snd = v'.snd.snd) ∧
     (n23 = (↑v'.fst : Int)) ∧
     (
     (v'.fst ≤ v'.snd.fst.length) ∧
     (v'.snd.fst.length ≤ (32 : Nat)) ∧
     (eqBB v'.snd.fst v'.snd.snd)) ∧
     (v'.snd.fst.length - v'.fst < v_18.snd.fst.length - v_18.fst)))
   ((k (AV.bool true) [] [])))) := by
 intro r_1
 refine br_intro (fun c1 => ?_) (fun c1 => ?_)
 ·
  exact hk
 ·
  refine ⟨?_, ?_⟩
  ·
   refine ⟨by exact ⟨by assumption, by assumption⟩, ?_⟩
   refine ⟨by assumption, ?_⟩
   exact by assumption
  intro e_2
  intro bl_3
  intro h2
  intro h3
  intro ⟨a4, b4⟩
  intro h5
  refine ⟨?_, ?_⟩
  ·
   refine ⟨by exact ⟨by assumption, by assumption⟩, ?_⟩
   refine ⟨by assumption, ?_⟩
   exact by assumption
  intro e_8
  intro bl_9
  intro h6
  intro h7
  intro ⟨a8, b8⟩
  intro h9
  intro n14
  intro q14
  intro n16
  intro q16
  refine br_intro (fun c10 => ?_) (fun c10 => ?_)
  ·
   simp at c10
   have e : bl_3 = bl_9 := h3.trans h7.symm
   rw [e] at q14
   rcases c10 with c | c
   ·
    exact absurd (h2.trans h6.symm) c
   ·
    exact absurd (q14.trans q16.symm) c
  ·
   simp at c10
   refine ⟨?_, ?_⟩
   ·
    refine ⟨(Int.toNat (0 : Int), bl_3, bl_9), ?_⟩
    refine ⟨by first | with_reducible rfl | rfl, ?_⟩
    refine ⟨by first | with_reducible rfl | rfl, ?_⟩
    refine ⟨by show (0 : Int) = (↑(Int.toNat (0 : Int)) : Int); omega, ?_⟩
    refine ⟨by show Int.toNat (0 : Int) ≤ bl_3.length; omega, ?_⟩
    have h11 : bl_3.length ≤ (32 : Nat) := by
     rw [h3]; exact blkO_le _ _ _ _
    refine ⟨h11, ?_⟩
    exact ⟨h3.trans h7.symm⟩
   intro v_18
   intro h12
   intro n20
   intro q20
   intro ⟨l20, u20⟩
   refine brd (fun c13 => ?_) (fun c13 => ?_)
   ·
    refine ⟨by first | omega | (dsimp only; omega), ?_⟩
    refine ⟨by first | omega | (dsimp only; omega), ?_⟩
    refine ⟨by first | omega | (dsimp only; omega), ?_⟩
    have h14 : (↑v_18.fst : Int) < (↑v_18.snd.snd.length : Int) := by
     rw [← h12.2.2.e]; omega
    refine ⟨h14, ?_⟩
    refine br_intro (fun c15 => ?_) (fun c15 => ?_)
    ·
     simp at c15
     exact absurd (by rw [h12.2.2.e]) c15
    ·
     simp at c15
     intro n23
     intro q23
     first | (rw [wrI64] at q23; rotate_left 1; · omega) | rw [IntKind.wrap_i64] at q23
     intro ⟨l23, u23⟩
     refine ⟨(n23.toNat, v_18.snd.fst, v_18.snd.snd), ?_⟩
     refine ⟨by first | with_reducible rfl | rfl, ?_⟩
     refine ⟨by first | with_reducible rfl | rfl, ?_⟩
     refine ⟨by show n23 = (↑n23.toNat : Int); omega, ?_⟩
     refine ⟨?_, ?_⟩
     ·
      refine ⟨by show n23.toNat ≤ v_18.snd.fst.length; omega, ?_⟩
      refine ⟨by show v_18.snd.fst.length ≤ (32 : Nat); omega, ?_⟩
      exact h12.2.2
     exact by show v_18.snd.fst.length - n23.toNat < v_18.snd.fst.length - v_18.fst; omega
   ·
    exact hk

theorem storeBlocks_ok : Holds Try.prog 3 lawBlocks := by
  refine fn_sound (env := mkEnv H7) (tab_ok H7_ok) Try.func3 Try.call3 fun args k h => ?_
  match args, h with
  | [.agg [.int .i64 g, .int .u8 m, .sl 10 ps], .int .i64 n], h => exact ⟨by kernel_rfl, lawBlocksLoops, fun _ _ => none, .cast (by kernel_rfl) (storeBlocks_vc g h.1.1 h.1.2 m h.2.1.1 h.2.1.2 ps n h.2.2.1.1 h.2.2.1.2 k h.2.2.2)⟩
end Go.Proofs.Ytcdflgfhkohldaa
namespace Go.Proofs.Ytcdflgfhkohldaa
open Go.ChangeShapes Go.WideShapes Go.ChangeAt Go.RowKit Go.Eng
set_option linter.unusedVariables false

theorem ownB : ownKnob Try.prog.godebug = none := by kernel_rfl
theorem laidB : laidOutB Try.prog = true := by kernel_rfl

set_option maxHeartbeats 800000 in
set_option maxRecDepth 100000 in
theorem storeBlocksLifted (os : Os) (started : os.Started) (H : Type) (enc : TypeId × Value → H) :
    ReturnsInHanded {} Try.checked os 3 .any (Rows.storeBlocksSpec.pre6 enc Try.prog Try.f3 Rows.storeBlocksRow.domain false) (Rows.storeBlocksSpec.post enc Try.prog Try.f3 false true false false) := by
  refine returnsInHanded_of_change (C := Try.checked) ownB started (by kernel_rfl) Try.func3
    (ChangeSpec.witness6 (enc := enc) (C := Try.checked) false ⟨#[], #[.agg #[.int .i64 0, .int .u8 0, .slice none 0 0], .int .i64 0], []⟩ 8 (by kernel_rfl) (by kernel_rfl) (by kernel_rfl) (by kernel_rfl)) ?_
  intro W base args ds gs before hval0 hW hcnd _
  have hval : ∀ (j : Nat) t v, Try.f3.params[j]? = some t → args[j]? = some v → Value.okWide Try.prog W .any base t v := hval0
  have hW' := hW
  obtain ⟨p, q, hA0, hV, rfl, hfz, hnd⟩ := hW
  have hA : DataW.TrodAll enc Try.prog W 0 (fun _ => true) true Try.f3.params.toList args.toList ds p := hA0
  rw [Try.params3] at hA hval
  obtain ⟨v0, vs0, d0, ds0, p0, q0, hargs, rfl, rfl, h0, r0⟩ := trodAll_cons hA
  obtain ⟨v1, vs1, d1, ds1, p1, q1, rfl, rfl, rfl, h1, r1⟩ := trodAll_cons r0
  obtain ⟨rfl, rfl, rfl⟩ := trodAll_nil r1
  obtain rfl : args = #[v0, v1] := by cases args; simp_all
  obtain ⟨rfl, rfl⟩ := trodVars_none hV
  have k0 := h0
  have lt0 : ∀ x ∈ p0, x.block < W.heap.size := by obtain ⟨m, hm⟩ := k0; exact DataW.trod_lt m _ _ _ hm
  obtain ⟨fuel0, hf0⟩ := h0
  obtain ⟨cs0, rfl, hsz0, hcs0⟩ := open_scal Try.underlying24 (by kernel_rfl) (by kernel_rfl) (hval 0 24 v0 rfl rfl) hf0
  obtain ⟨c0_0, c0_1, c0_2, rfl⟩ : ∃ b0 b1 b2, cs0 = #[b0, b1, b2] := by
    exact arr3 hsz0
  obtain ⟨n0_0, y0_0, hy0_0⟩ := hcs0 0 _ _ rfl rfl
  obtain ⟨a0_0, e0_0, -, w0_0⟩ := DataW.trod_int Try.underlying3 hy0_0
  obtain rfl : c0_0 = .int .i64 a0_0 := by simpa using e0_0
  obtain ⟨n0_1, y0_1, hy0_1⟩ := hcs0 1 _ _ rfl rfl
  obtain ⟨a0_1, e0_1, -, w0_1⟩ := DataW.trod_int Try.underlying5 hy0_1
  obtain rfl : c0_1 = .int .u8 a0_1 := by simpa using e0_1
  obtain ⟨n0_2, y0_2, hy0_2⟩ := hcs0 2 _ _ rfl rfl
  obtain ⟨u0_2, xs0_2, e0_2, o0_2, w0_2, -⟩ := rep_slice (c := 10) (by decide) Try.underlying22 (by kernel_rfl) (cells_plan Try.underlying71 (by kernel_rfl) rfl Try.underlying3 Try.underlying3 Try.underlying69 Try.underlying3 (by kernel_rfl) (by kernel_rfl) (by kernel_rfl) (by kernel_rfl)) hy0_2
  obtain rfl : c0_2 = u0_2 := by simpa using e0_2
  obtain ⟨a1, rfl, rfl, rfl, w1⟩ := open_int Try.underlying3 (hval 1 3 v1 rfl rfl) h1
  clear hA0 hval0
  have hk0_0 : kwf .i64 a0_0 := by simpa [Lit.wf, kwf] using w0_0
  have hk0_1 : kwf .u8 a0_1 := by simpa [Lit.wf, kwf] using w0_1
  have hk1 : kwf .i64 a1 := by simpa [Lit.wf, kwf] using w1
  refine (calls_of_holds storeBlocks_ok Try.call3 (w := W) (vals := #[.agg #[.int .i64 a0_0, .int .u8 a0_1, c0_2], .int .i64 a1]) (args := [.agg [.int .i64 a0_0, .int .u8 a0_1, .sl 10 xs0_2], .int .i64 a1]) rfl (fun j v hj => ?_) ⟨hk0_0, hk0_1, hk1, rfl⟩).mono fun e W' ⟨he, bel⟩ => ?_
  · rcases j with _ | _ | j
    · simp at hj; subst hj; refine .agg rfl (fun j v h => ?_) (fun j v h => ?_) <;> rcases j with _ | _ | _ | j <;> simp at h <;> subst h <;> first | rfl | exact .bool | exact .int (by assumption) | assumption
    · simp at hj; subst hj; exact .int hk1
    · simp at hj
  subst he
  exact ⟨_, rfl, _, _, _, [], _, [], hW', trodAll_mk1 (shut_bool Try.underlying4 _), (trodAll_cons_mk (Below.trod laidB (by kernel_rfl) (of_decide_eq_true (by kernel_rfl)) k0 bel lt0) (trodAll_cons_mk (shut_int Try.underlying3 w1) trodAll_mk0)), rfl, bel.frame _, fun h => by cases h⟩

theorem storeBlocks_said : Rows.StoreBlocksSaid :=
  OpenClaim.holds_of_wide 3 Try.f3 rfl rfl rfl rfl rfl rfl rfl ⟨rfl, rfl, rfl, rfl, rfl⟩ rfl rfl rfl rfl rfl (by kernel_rfl) Try.func3 (by kernel_rfl)
    (of_decide_eq_true (by kernel_rfl)) (by unfold Func.isWrapper; first | (rw [if_pos (by decide +kernel)]; kernel_rfl) | (rw [if_neg (by decide +kernel)]; exact ⟨rfl, rfl⟩))
    (fun os started H enc _ => storeBlocksLifted os started H enc)
#print axioms storeBlocks_said
end Go.Proofs.Ytcdflgfhkohldaa


