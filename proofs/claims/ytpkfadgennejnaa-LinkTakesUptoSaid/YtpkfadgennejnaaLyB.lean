import Derived.Test.YtpkfadgennejnaaLyA
namespace Go.Proofs.Ytpkfadgennejnaa
open Go Go.Eng Go.Lk Go.Proofs
set_option linter.unusedVariables false
set_option maxHeartbeats 2000000 in
theorem may_vc (an : Bool) (la : Int) (la0 : (0 : Int) ≤ la) (la1 : la ≤ (4294967295 : Int)) (ag : Int) (ag0 : (-9223372036854775808 : Int) ≤ ag) (ag1 : ag ≤ (9223372036854775807 : Int)) (k : AV → List (Option Blk) → List Blk → Prop) (hk : (lkBad an la ag → k (AV.bool false) [] []) ∧ (¬lkBad an la ag → k (AV.bool true) [] [])) :
 ∀ (n1 : Int),
 (n1 = ag) →
 ((-9223372036854775808 : Int) ≤ n1 ∧ n1 ≤ (9223372036854775807 : Int)) →
 ∀ (n4 : Int),
 (n4 = ag) →
 ∀ (n6 : Int),
 (n6 = la) →
 (k (AV.bool (bif bif decide (n1 ≥ (0 : Int)) then decide (n4 ≤ (1048576 : Int)) else false then bif an then true else n6 == (0 : Int) else false)) [] []) := by
 intro n1
 intro q1
 intro ⟨l1, u1⟩
 intro n4
 intro q4
 intro n6
 intro q6
 exact may_k q1 q4 q6 hk.1 hk.2

theorem may_ok : Holds Try.prog 33 mayS := by
  refine fn_sound (env := mkEnv T0) (tab_ok T0_ok) Try.func33 Try.call33 fun args k h => ?_
  match args, h with
  | [.agg [.bool an, .int .u32 la, .int .i64 ag]], h => exact ⟨by kernel_rfl, fun _ _ => none, fun _ _ => none, .cast (by kernel_rfl) (may_vc an la h.1.1 h.1.2 ag h.2.1.1 h.2.1.2 k h.2.2)⟩
set_option maxHeartbeats 2000000 in
theorem send_vc (la : Int) (la0 : (0 : Int) ≤ la) (la1 : la ≤ (4294967295 : Int)) (k : AV → List (Option Blk) → List Blk → Prop) (hk : ∀ (n e : Int), ((n, e) = if la = (4294967295 : Int) then ((0 : Int), (2 : Int)) else (la + (1 : Int), (0 : Int))) → k (AV.tup [AV.int IntKind.u32 n, AV.int IntKind.i64 e]) [] []) :
 br (la == (4294967295 : Int))
 ((k (AV.tup [AV.int IntKind.u32 (0 : Int), AV.int IntKind.i64 (2 : Int)]) [] []))
 (∀ (n1 : Int),
  (n1 = IntKind.u32.wrap (la + (1 : Int))) →
  ((0 : Int) ≤ n1 ∧ n1 ≤ (4294967295 : Int)) →
  (k (AV.tup [AV.int IntKind.u32 n1, AV.int IntKind.i64 (0 : Int)]) [] [])) := by
 refine br_intro (fun c1 => ?_) (fun c1 => ?_)
 ·
  simp at c1
  exact hk 0 2 (by rw [if_pos c1])
 ·
  simp at c1
  intro n1
  intro q1
  rw [IntKind.wrap_u32] at q1
  intro ⟨l1, u1⟩
  have e : n1 = la + 1 := by omega
  exact hk n1 0 (by rw [if_neg c1, e])

theorem send_ok : Holds Try.prog 18 sendS := by
  refine fn_sound (env := mkEnv T0) (tab_ok T0_ok) Try.func18 Try.call18 fun args k h => ?_
  match args, h with
  | [.int .u32 la], h => exact ⟨by kernel_rfl, fun _ _ => none, fun _ _ => none, .cast (by kernel_rfl) (send_vc la h.1.1 h.1.2 k h.2)⟩
set_option maxHeartbeats 2000000 in
theorem rsend_vc (la : Int) (la0 : (0 : Int) ≤ la) (la1 : la ≤ (4294967295 : Int)) (k : AV → List (Option Blk) → List Blk → Prop) (hk : ∀ (n e : Int), ((n, e) = if la = (4294967295 : Int) then ((0 : Int), (2 : Int)) else (la + (1 : Int), (0 : Int))) → k (AV.tup [AV.int IntKind.u32 n, AV.int IntKind.i64 e]) [] []) :
 br (la == (4294967295 : Int))
 ((k (AV.tup [AV.int IntKind.u32 (0 : Int), AV.int IntKind.i64 (2 : Int)]) [] []))
 (∀ (n1 : Int),
  (n1 = IntKind.u32.wrap (la + (1 : Int))) →
  ((0 : Int) ≤ n1 ∧ n1 ≤ (4294967295 : Int)) →
  (k (AV.tup [AV.int IntKind.u32 n1, AV.int IntKind.i64 (0 : Int)]) [] [])) := by
 refine br_intro (fun c1 => ?_) (fun c1 => ?_)
 ·
  simp at c1
  exact hk 0 2 (by rw [if_pos c1])
 ·
  simp at c1
  intro n1
  intro q1
  rw [IntKind.wrap_u32] at q1
  intro ⟨l1, u1⟩
  have e : n1 = la + 1 := by omega
  exact hk n1 0 (by rw [if_neg c1, e])

theorem rsend_ok : Holds Try.prog 19 sendS := by
  refine fn_sound (env := mkEnv T0) (tab_ok T0_ok) Try.func19 Try.call19 fun args k h => ?_
  match args, h with
  | [.int .u32 la], h => exact ⟨by kernel_rfl, fun _ _ => none, fun _ _ => none, .cast (by kernel_rfl) (rsend_vc la h.1.1 h.1.2 k h.2)⟩
theorem U1_ok : TabOk Try.prog U1 := ⟨may_ok, trivial⟩
set_option maxHeartbeats 2000000 in
theorem rfresh_vc (an : Bool) (la : Int) (la0 : (0 : Int) ≤ la) (la1 : la ≤ (4294967295 : Int)) (ag : Int) (ag0 : (-9223372036854775808 : Int) ≤ ag) (ag1 : ag ≤ (9223372036854775807 : Int)) (w : Int) (w0 : (-9223372036854775808 : Int) ≤ w) (w1 : w ≤ (9223372036854775807 : Int)) (k : AV → List (Option Blk) → List Blk → Prop) (hk : (∀ (e : Int), e = fE an la ag w → e ≠ (0 : Int) → k (AV.tup [AV.bool false, AV.int IntKind.i64 e]) [] []) ∧ (fE an la ag w = (0 : Int) → ∀ (b : Bool), b = (an && decide (ag < w)) → k (AV.tup [AV.bool b, AV.int IntKind.i64 (0 : Int)]) [] [])) :
 (
 ((0 : Int) ≤ la) ∧
 (la ≤ (4294967295 : Int))) ∧
 (
 ((-9223372036854775808 : Int) ≤ ag) ∧
 (ag ≤ (9223372036854775807 : Int))) ∧
 (
 (ag < (0 : Int) ∨ (1048576 : Int) < ag ∨ an = false ∧ la ≠ (0 : Int)) →
 (k (AV.tup [AV.bool false, AV.int IntKind.i64 (8 : Int)]) [] [])) ∧
 ((¬lkBad an la ag) →
 br (bif decide (w < (1 : Int)) then true else decide (w > (1048576 : Int)))
 ((k (AV.tup [AV.bool false, AV.int IntKind.i64 (2 : Int)]) [] []))
 (∀ (n1 : Int),
  (n1 = ag) →
  (k (AV.tup [AV.bool (bif an then decide (n1 < w) else false), AV.int IntKind.i64 (0 : Int)]) [] []))) := by
 refine ⟨by exact ⟨by assumption, by assumption⟩, ?_⟩
 refine ⟨by exact ⟨by assumption, by assumption⟩, ?_⟩
 refine ⟨?_, ?_⟩
 ·
  intro h1
  exact hk.1 8 (by unfold fE; rw [if_pos (show lkBad an la ag from h1)]) (by decide)
 intro h2
 refine br_intro (fun c3 => ?_) (fun c3 => ?_)
 ·
  simp at c3
  exact hk.1 2 (fE_2 h2 c3) (by decide)
 ·
  simp at c3
  intro n1
  intro q1
  exact hk.2 (fE_0 h2 (by omega)) _ (by subst q1; cases an <;> rfl)

theorem rfresh_ok : Holds Try.prog 17 freshS := by
  refine fn_sound (env := mkEnv U1) (tab_ok U1_ok) Try.func17 Try.call17 fun args k h => ?_
  match args, h with
  | [.agg [.bool an, .int .u32 la, .int .i64 ag], .int .i64 w], h => exact ⟨by kernel_rfl, fun _ _ => none, fun _ _ => none, .cast (by kernel_rfl) (rfresh_vc an la h.1.1 h.1.2 ag h.2.1.1 h.2.1.2 w h.2.2.1.1 h.2.2.1.2 k h.2.2.2)⟩
set_option maxHeartbeats 2000000 in
theorem twin_vc (l : List Msg) (hs : small l) (k : AV → List (Option Blk) → List Blk → Prop) (hk : ∀ (n : Nat) (ys : List Msg), ys = l → n = l.length → k (AV.row (8 : Nat) (0 : Nat) (0 : Nat) n) [] [Blk.row (8 : Nat) ys]) :
 (
 ∃ (v : Int × Nat × List Msg),
 (l = l) ∧
 ((0 : Nat) = (0 : Nat)) ∧
 ((0 : Nat) = v.snd.fst) ∧
 ((0 : Int) = v.fst) ∧
 ([] = v.snd.snd) ∧
 (
  ((0 : Int) ≤ v.fst) ∧
  (v.fst ≤ (↑l.length : Int))) ∧
 (v.snd.snd = List.take v.fst.toNat l) ∧
 ((↑v.snd.fst : Int) = v.fst) ∧
 (small l)) ∧
 ∀ (v_1 : Int × Nat × List Msg),
 (((0 : Int) ≤ v_1.fst ∧ v_1.fst ≤ (↑l.length : Int)) ∧ v_1.snd.snd = List.take v_1.fst.toNat l ∧ (↑v_1.snd.fst : Int) = v_1.fst ∧ small l) →
 ∀ (n3 : Int),
 (n3 = (↑l.length : Int)) →
 ((-9223372036854775808 : Int) ≤ n3 ∧ n3 ≤ (9223372036854775807 : Int)) →
 br (decide (v_1.fst < n3))
 (((0 : Int) ≤ v_1.fst) ∧
  (v_1.fst < (↑l.length : Int)) ∧
  ∀ (n6 : Int),
  (n6 = (↑(l.getD v_1.fst.toNat (dflt (8 : Nat))).kind.toNat : Int)) →
  ((0 : Int) ≤ n6 ∧ n6 ≤ (255 : Int)) →
  ((0 : Int) ≤ v_1.fst) ∧
  (v_1.fst < (↑l.length : Int)) ∧
  ∀ (n9 : Int),
  (n9 = (↑(l.getD v_1.fst.toNat (dflt (8 : Nat))).seq.toNat : Int)) →
  ((0 : Int) ≤ n9 ∧ n9 ≤ (4294967295 : Int)) →
  ((0 : Int) ≤ v_1.fst) ∧
  (v_1.fst < (↑l.length : Int)) ∧
  ((l.getD v_1.fst.toNat (dflt (8 : Nat))).body.length * (1 : Nat) ≤ (140737488355328 : Nat)) ∧
  ∀ (z12 : List UInt8),
  (z12 = (l.getD v_1.fst.toNat (dflt (8 : Nat))).body) →
  ((v_1.snd.fst + (1 : Nat)) * (32 : Nat) ≤ (140737488355328 : Nat)) ∧
  ∀ (z14 : List Msg),
  (z14 = List.take v_1.snd.fst v_1.snd.snd ++ List.take (1 : Nat) (List.drop (0 : Nat) [{ kind := UInt8.ofNat n6.toNat, seq := UInt32.ofNat n9.toNat, body := List.take (l.getD v_1.fst.toNat (dflt (8 : Nat))).body.length (List.drop (0 : Nat) z12) : Msg }])) →
  ∀ (n16 : Int),
  (n16 = IntKind.i64.wrap (v_1.fst + (1 : Int))) →
  ((-9223372036854775808 : Int) ≤ n16 ∧ n16 ≤ (9223372036854775807 : Int)) →
  ∃ (v' : Int × Nat × List Msg),
  (l = l) ∧
  ((0 : Nat) = (0 : Nat)) ∧
  (v_1.snd.fst + (1 : Nat) = v'.snd.fst) ∧
  (n16 = v'.fst) ∧
  (z14 = v'.snd.snd) ∧
  (
  (
   ((0 : Int) ≤ v'.fst) ∧
   (v'.fst ≤ (↑l.length : Int))) ∧
  (v'.snd.snd = List.take v'.fst.toNat l) ∧
  ((↑v'.snd.fst : Int) = v'.fst) ∧
  (small l)) ∧
  (((↑l.length : Int) - v'.fst).toNat < ((↑l.length : Int) - v_1.fst).toNat))
 ((k (AV.row (8 : Nat) (0 : Nat) (0 : Nat) v_1.snd.fst) [] [Blk.row (8 : Nat) v_1.snd.snd])) := by
 refine ⟨?_, ?_⟩
 ·
  refine ⟨((0 : Int), (0 : Nat), []), ?_⟩
  refine ⟨by first | with_reducible rfl | rfl, ?_⟩
  refine ⟨by first | with_reducible rfl | rfl, ?_⟩
  refine ⟨by first | with_reducible rfl | rfl, ?_⟩
  refine ⟨by first | with_reducible rfl | rfl, ?_⟩
  refine ⟨by first | with_reducible rfl | rfl, ?_⟩
  refine ⟨by first | omega | (dsimp only; omega), ?_⟩
  refine ⟨by rfl, ?_⟩
  refine ⟨by show (↑(0 : Nat) : Int) = (0 : Int); omega, ?_⟩
  exact by show small l; assumption
 intro v_1
 intro h1
 intro n3
 intro q3
 intro ⟨l3, u3⟩
 refine brd (fun c2 => ?_) (fun c2 => ?_)
 ·
  refine ⟨by first | omega | (dsimp only; omega), ?_⟩
  refine ⟨by first | omega | (dsimp only; omega), ?_⟩
  intro n6
  intro q6
  intro ⟨l6, u6⟩
  refine ⟨by first | omega | (dsimp only; omega), ?_⟩
  refine ⟨by first | omega | (dsimp only; omega), ?_⟩
  intro n9
  intro q9
  intro ⟨l9, u9⟩
  refine ⟨by first | omega | (dsimp only; omega), ?_⟩
  refine ⟨by first | omega | (dsimp only; omega), ?_⟩
  have h3 : (l.getD v_1.fst.toNat (dflt (8 : Nat))).body.length * (1 : Nat) ≤ (140737488355328 : Nat) := by
   have := hs.c2 v_1.fst.toNat; omega
  refine ⟨h3, ?_⟩
  intro z12
  intro qz12
  have h4 : (v_1.snd.fst + (1 : Nat)) * (32 : Nat) ≤ (140737488355328 : Nat) := by
   have := hs.c1; omega
  refine ⟨h4, ?_⟩
  intro z14
  intro qz14
  intro n16
  intro q16
  first | (rw [wrI64] at q16; rotate_left 1; · omega) | rw [IntKind.wrap_i64] at q16
  intro ⟨l16, u16⟩
  refine ⟨(n16, v_1.snd.fst + (1 : Nat), z14), ?_⟩
  refine ⟨by first | with_reducible rfl | rfl, ?_⟩
  refine ⟨by first | with_reducible rfl | rfl, ?_⟩
  refine ⟨by first | with_reducible rfl | rfl, ?_⟩
  refine ⟨by first | with_reducible rfl | rfl, ?_⟩
  refine ⟨by first | with_reducible rfl | rfl, ?_⟩
  refine ⟨?_, ?_⟩
  ·
   refine ⟨by first | omega | (dsimp only; omega), ?_⟩
   have h5 : z14 = List.take n16.toNat l := by
    rw [show n16.toNat = v_1.fst.toNat + 1 by omega, take_step l (dflt 8) (by omega), qz14, q6, q9, qz12, mk_msg, ← h1.2.1, List.take_of_length_le (by rw [h1.2.1, List.length_take]; omega)]; rfl
   refine ⟨h5, ?_⟩
   refine ⟨by show (↑(v_1.snd.fst + (1 : Nat)) : Int) = n16; omega, ?_⟩
   exact by show small l; assumption
  exact by show ((↑l.length : Int) - n16).toNat < ((↑l.length : Int) - v_1.fst).toNat; omega
 ·
  exact hk _ _ (by rw [h1.2.1, List.take_of_length_le (by omega)]) (by omega)

theorem twin_ok : Holds Try.prog 15 twinS := by
  refine fn_sound (env := mkEnv T0) (tab_ok T0_ok) Try.func15 Try.call15 fun args k h => ?_
  match args, h with
  | [.sl 8 l], h => exact ⟨by kernel_rfl, twinLoops l, fun _ _ => none, .cast (by kernel_rfl) (twin_vc l h.1 k h.2)⟩
set_option maxHeartbeats 2000000 in
theorem sameM_vc (xs : List Msg) (hs : xs.length ≤ (1048576 : Nat)) (k : AV → List (Option Blk) → List Blk → Prop) (hk : k (AV.bool true) [] []) :
 ∀ (n1 : Int),
 (n1 = (↑xs.length : Int)) →
 ((-9223372036854775808 : Int) ≤ n1 ∧ n1 ≤ (9223372036854775807 : Int)) →
 ∀ (n4 : Int),
 (n4 = (↑xs.length : Int)) →
 ((-9223372036854775808 : Int) ≤ n4 ∧ n4 ≤ (9223372036854775807 : Int)) →
 br (n1 != n4)
 ((k (AV.bool false) [] []))
 ((
  ∃ (v : Int),
  (xs = xs) ∧
  (xs = xs) ∧
  ((0 : Int) = v) ∧
  (
   ((0 : Int) ≤ v) ∧
   (v ≤ (↑xs.length : Int))) ∧
  (xs.length ≤ (1048576 : Nat))) ∧
  ∀ (v_7 : Int),
  (((0 : Int) ≤ v_7 ∧ v_7 ≤ (↑xs.length : Int)) ∧ xs.length ≤ (1048576 : Nat)) →
  ∀ (n9 : Int),
  (n9 = (↑xs.length : Int)) →
  ((-9223372036854775808 : Int) ≤ n9 ∧ n9 ≤ (9223372036854775807 : Int)) →
  br (decide (v_7 < n9))
  (((0 : Int) ≤ v_7) ∧
   (v_7 < (↑xs.length : Int)) ∧
   ∀ (n12 : Int),
   (n12 = (↑(xs.getD v_7.toNat (dflt (8 : Nat))).kind.toNat : Int)) →
   ((0 : Int) ≤ n12 ∧ n12 ≤ (255 : Int)) →
   ((0 : Int) ≤ v_7) ∧
   (v_7 < (↑xs.length : Int)) ∧
   ∀ (n15 : Int),
   (n15 = (↑(xs.getD v_7.toNat (dflt (8 : Nat))).kind.toNat : Int)) →
   ((0 : Int) ≤ n15 ∧ n15 ≤ (255 : Int)) →
   (
   ((n12 != n15) = false) →
   ((0 : Int) ≤ v_7) ∧
   (v_7 < (↑xs.length : Int))) ∧
   ∀ (n19 : Int),
   (n19 = (↑(xs.getD v_7.toNat (dflt (8 : Nat))).seq.toNat : Int)) →
   (
   ((n12 != n15) = false) →
   ((0 : Int) ≤ v_7) ∧
   (v_7 < (↑xs.length : Int))) ∧
   ∀ (n22 : Int),
   (n22 = (↑(xs.getD v_7.toNat (dflt (8 : Nat))).seq.toNat : Int)) →
   (
   ((bif n12 != n15 then true else n19 != n22) = false) →
   ((0 : Int) ≤ v_7) ∧
   (v_7 < (↑xs.length : Int))) ∧
   (
   ((bif n12 != n15 then true else n19 != n22) = false) →
   ((0 : Int) ≤ v_7) ∧
   (v_7 < (↑xs.length : Int))) ∧
   br (bif bif n12 != n15 then true else n19 != n22 then true else !{ data := (xs.getD v_7.toNat (dflt (8 : Nat))).body.toArray : ByteArray }.data.toList == { data := (xs.getD v_7.toNat (dflt (8 : Nat))).body.toArray : ByteArray }.data.toList)
   ((k (AV.bool false) [] []))
   (∀ (n26 : Int),
    (n26 = IntKind.i64.wrap (v_7 + (1 : Int))) →
    ((-9223372036854775808 : Int) ≤ n26 ∧ n26 ≤ (9223372036854775807 : Int)) →
    ∃ (v' : Int),
    (xs = xs) ∧
    (xs = xs) ∧
    (n26 = v') ∧
    (
    (
     ((0 : Int) ≤ v') ∧
     (v' ≤ (↑xs.length : Int))) ∧
    (xs.length ≤ (1048576 : Nat))) ∧
    (((↑xs.length : Int) - v').toNat < ((↑xs.length : Int) - v_7).toNat)))
  ((k (AV.bool true) [] []))) := by
 intro n1
 intro q1
 intro ⟨l1, u1⟩
 intro n4
 intro q4
 intro ⟨l4, u4⟩
 refine br_intro (fun c1 => ?_) (fun c1 => ?_)
 ·
  simp at c1
  exfalso; omega
 ·
  simp at c1
  refine ⟨?_, ?_⟩
  ·
   refine ⟨(0 : Int), ?_⟩
   refine ⟨by first | with_reducible rfl | rfl, ?_⟩
   refine ⟨by first | with_reducible rfl | rfl, ?_⟩
   refine ⟨by first | with_reducible rfl | rfl, ?_⟩
   refine ⟨by first | omega | (dsimp only; omega), ?_⟩
   exact by show xs.length ≤ (1048576 : Nat); assumption
  intro v_7
  intro h2
  intro n9
  intro q9
  intro ⟨l9, u9⟩
  refine brd (fun c3 => ?_) (fun c3 => ?_)
  ·
   refine ⟨by first | omega | (dsimp only; omega), ?_⟩
   refine ⟨by first | omega | (dsimp only; omega), ?_⟩
   intro n12
   intro q12
   intro ⟨l12, u12⟩
   refine ⟨by first | omega | (dsimp only; omega), ?_⟩
   refine ⟨by first | omega | (dsimp only; omega), ?_⟩
   intro n15
   intro q15
   intro ⟨l15, u15⟩
   refine ⟨?_, ?_⟩
   ·
    intro h4
    simp at h4
    refine ⟨by first | omega | (dsimp only; omega), ?_⟩
    exact by omega
   intro n19
   intro q19
   refine ⟨?_, ?_⟩
   ·
    intro q19
    simp at q19
    refine ⟨by first | omega | (dsimp only; omega), ?_⟩
    exact by omega
   intro n22
   intro q22
   refine ⟨?_, ?_⟩
   ·
    intro q22
    simp at q22
    refine ⟨by first | omega | (dsimp only; omega), ?_⟩
    exact by omega
   refine ⟨?_, ?_⟩
   ·
    intro q22
    simp at q22
    refine ⟨by first | omega | (dsimp only; omega), ?_⟩
    exact by omega
   refine br_intro (fun c5 => ?_) (fun c5 => ?_)
   ·
    simp at c5
    exfalso; omega
   ·
    simp at c5
    intro n26
    intro q26
    first | (rw [wrI64] at q26; rotate_left 1; · omega) | rw [IntKind.wrap_i64] at q26
    intro ⟨l26, u26⟩
    refine ⟨n26, ?_⟩
    refine ⟨by first | with_reducible rfl | rfl, ?_⟩
    refine ⟨by first | with_reducible rfl | rfl, ?_⟩
    refine ⟨by first | with_reducible rfl | rfl, ?_⟩
    refine ⟨?_, ?_⟩
    ·
     refine ⟨by first | omega | (dsimp only; omega), ?_⟩
     exact by show xs.length ≤ (1048576 : Nat); assumption
    exact by show ((↑xs.length : Int) - n26).toNat < ((↑xs.length : Int) - v_7).toNat; omega
  ·
   exact hk

theorem sameM_ok : Holds Try.prog 20 sameMS := by
  refine fn_sound (env := mkEnv T0) (tab_ok T0_ok) Try.func20 Try.call20 fun args k h => ?_
  match args, h with
  | [.sl 8 xs, .sl 8 ys], h =>
    obtain ⟨⟨e⟩, h1, h⟩ := h
    subst e
    exact ⟨by kernel_rfl, sameLoops xs, fun _ _ => none, .cast (by kernel_rfl) (sameM_vc xs h1 k h)⟩
end Go.Proofs.Ytpkfadgennejnaa

