import Derived.Test.YtpkfadgennejnaaLkJ
namespace Go.Proofs.Ytpkfadgennejnaa
open Go Go.Eng Go.Lk Go.Proofs
set_option linter.unusedVariables false
set_option maxHeartbeats 2000000 in
theorem lheavy_vc (got : List Msg) (hl : got.length ≤ (1048576 : Nat)) (k : AV → List (Option Blk) → List Blk → Prop) (hk : ∀ (b : Bool), k (AV.bool b) [] []) :
 (
 ∃ (v : Int × Int),
 (got = got) ∧
 ((0 : Int) = v.snd) ∧
 ((0 : Int) = v.fst) ∧
 (
  ((0 : Int) ≤ v.fst) ∧
  (v.fst ≤ (↑got.length : Int))) ∧
 (
  ((0 : Int) ≤ v.snd) ∧
  (v.snd ≤ (100000 : Int) * v.fst)) ∧
 (got.length ≤ (1048576 : Nat))) ∧
 ∀ (v_1 : Int × Int),
 (((0 : Int) ≤ v_1.fst ∧ v_1.fst ≤ (↑got.length : Int)) ∧ ((0 : Int) ≤ v_1.snd ∧ v_1.snd ≤ (100000 : Int) * v_1.fst) ∧ got.length ≤ (1048576 : Nat)) →
 ∀ (n3 : Int),
 (n3 = (↑got.length : Int)) →
 ((-9223372036854775808 : Int) ≤ n3 ∧ n3 ≤ (9223372036854775807 : Int)) →
 br (decide (v_1.fst < n3))
 (((0 : Int) ≤ v_1.fst) ∧
  (v_1.fst < (↑got.length : Int)) ∧
  ∀ (n6 : Int),
  (n6 = (↑(got.getD v_1.fst.toNat (dflt (8 : Nat))).body.length : Int)) →
  ((-9223372036854775808 : Int) ≤ n6 ∧ n6 ≤ (9223372036854775807 : Int)) →
  ∀ (n9 : Int),
  (n9 = min n6 (100000 : Int)) →
  ((-9223372036854775808 : Int) ≤ n9 ∧ n9 ≤ (9223372036854775807 : Int)) →
  ∀ (n12 : Int),
  (n12 = IntKind.i64.wrap (v_1.snd + n9)) →
  ((-9223372036854775808 : Int) ≤ n12 ∧ n12 ≤ (9223372036854775807 : Int)) →
  ∀ (n15 : Int),
  (n15 = IntKind.i64.wrap (v_1.fst + (1 : Int))) →
  ((-9223372036854775808 : Int) ≤ n15 ∧ n15 ≤ (9223372036854775807 : Int)) →
  ∃ (v' : Int × Int),
  (got = got) ∧
  (n12 = v'.snd) ∧
  (n15 = v'.fst) ∧
  (
  (
   ((0 : Int) ≤ v'.fst) ∧
   (v'.fst ≤ (↑got.length : Int))) ∧
  (
   ((0 : Int) ≤ v'.snd) ∧
   (v'.snd ≤ (100000 : Int) * v'.fst)) ∧
  (got.length ≤ (1048576 : Nat))) ∧
  (((↑got.length : Int) - v'.fst).toNat < ((↑got.length : Int) - v_1.fst).toNat))
 (∀ (n18 : Int),
  (n18 = (↑got.length : Int)) →
  ((-9223372036854775808 : Int) ≤ n18 ∧ n18 ≤ (9223372036854775807 : Int)) →
  (k (AV.bool (bif decide (n18 > (1100 : Int)) then true else decide (v_1.snd > (100000 : Int)))) [] [])) := by
 refine ⟨?_, ?_⟩
 ·
  refine ⟨((0 : Int), (0 : Int)), ?_⟩
  refine ⟨by first | with_reducible rfl | rfl, ?_⟩
  refine ⟨by first | with_reducible rfl | rfl, ?_⟩
  refine ⟨by first | with_reducible rfl | rfl, ?_⟩
  refine ⟨by first | omega | (dsimp only; omega), ?_⟩
  refine ⟨by first | omega | (dsimp only; omega), ?_⟩
  exact by show got.length ≤ (1048576 : Nat); assumption
 intro v_1
 intro h1
 intro n3
 intro q3
 intro ⟨l3, u3⟩
 refine brd (fun c2 => ?_) (fun c2 => ?_)
 ·
  refine ⟨by first | omega | (dsimp only; omega), ?_⟩
  refine ⟨by first | omega | (dsimp only; omega), ?_⟩
  intro n6
  intro q6
  intro ⟨l6, u6⟩
  intro n9
  intro q9
  intro ⟨l9, u9⟩
  intro n12
  intro q12
  rw [IntKind.wrap_i64] at q12
  intro ⟨l12, u12⟩
  intro n15
  intro q15
  rw [IntKind.wrap_i64] at q15
  intro ⟨l15, u15⟩
  refine ⟨(n15, n12), ?_⟩
  refine ⟨by first | with_reducible rfl | rfl, ?_⟩
  refine ⟨by first | with_reducible rfl | rfl, ?_⟩
  refine ⟨by first | with_reducible rfl | rfl, ?_⟩
  refine ⟨?_, ?_⟩
  ·
   refine ⟨by first | omega | (dsimp only; omega), ?_⟩
   refine ⟨by first | omega | (dsimp only; omega), ?_⟩
   exact by show got.length ≤ (1048576 : Nat); assumption
  exact by show ((↑got.length : Int) - n15).toNat < ((↑got.length : Int) - v_1.fst).toNat; omega
 ·
  intro n18
  intro q18
  intro ⟨l18, u18⟩
  exact by exact hk _

theorem lheavy_ok : Holds Try.prog 11 heavyS := by
  refine fn_sound (env := mkEnv T0) (tab_ok T0_ok) Try.func11 Try.call11 fun args k h => ?_
  match args, h with
  | [.sl 8 got], h => exact ⟨by kernel_rfl, heavyLoops got, fun _ _ => none, .cast (by kernel_rfl) (lheavy_vc got h.1 k h.2)⟩
def T5 : Tab := [(12, nextZ), (10, trueS), (11, heavyS)]
theorem T5_ok : TabOk Try.prog T5 := ⟨nextZ_ok, alive_ok, lheavy_ok, trivial⟩
def lawRises : Eng.Spec := { ro := true, own := [], run := fun args _ k => match args with
  | [.agg [.bool an, .int .u32 la, .int .i64 ag], .sl 11 ticks] => inK .u32 la ∧ inK .i64 ag ∧ ticks.length ≤ 1048576 ∧ k (.bool true) [] []
  | _ => False }
structure RIn (T : List Msg) (k at' : Int) (an : Bool) (la : Int) (sa : Bool) (sb : Int) : Prop where
  c1 : (an, la) = stk (sa, sb) (T.take k.toNat)
  c2 : at' = (tk (sa, sb) (T.take k.toNat)).length
structure ROut (T : List Msg) (b : Bool) (l a : Int) (sa : Bool) (sb : Int) : Prop where
  c1 : (b, l) = stk (sa, sb) T
  c2 : a = 0 ↔ 0 < (tk (sa, sb) T).length
theorem rin_old {T : List Msg} {k k' a : Int} {an : Bool} {la : Int} {sa : Bool} {sb : Int} (h : RIn T k a an la sa sb) (h0 : 0 ≤ k) (hk : k < T.length) (h1 : an = true) (h2 : ((T.getD k.toNat (dflt 8)).seq.toNat : Int) ≤ la) (e : k' = k + 1) : RIn T k' a an la sa sb := by
  have o : old (stk (sa, sb) (T.take k.toNat)) (T.getD k.toNat (dflt 8)) = true := by rw [← h.c1]; exact old_t h1 h2
  subst e
  refine ⟨?_, ?_⟩
  · rw [stk_succ _ _ h0 hk, ← h.c1]
    rw [← h.c1] at o
    unfold stp
    rw [if_pos o]
  · rw [tk_succ _ _ h0 hk, if_pos o, List.append_nil]; exact h.c2
theorem rin_new {T : List Msg} {k k' a a' n : Int} {an : Bool} {la : Int} {sa : Bool} {sb : Int} (h : RIn T k a an la sa sb) (h0 : 0 ≤ k) (hk : k < T.length) (h1 : an = true → la < ((T.getD k.toNat (dflt 8)).seq.toNat : Int)) (e : k' = k + 1) (e2 : a' = a + 1) (e3 : n = ((T.getD k.toNat (dflt 8)).seq.toNat : Int)) : RIn T k' a' true n sa sb := by
  have o : ¬ old (stk (sa, sb) (T.take k.toNat)) (T.getD k.toNat (dflt 8)) = true := by rw [← h.c1]; exact old_f h1
  subst e
  refine ⟨?_, ?_⟩
  · rw [stk_succ _ _ h0 hk]
    unfold stp
    rw [if_neg o, e3]
  · rw [tk_succ _ _ h0 hk, if_neg o, List.length_append, e2, h.c2]; rfl
theorem rin_at {T : List Msg} {k a : Int} {an : Bool} {la : Int} {sa : Bool} {sb : Int} (h : RIn T k a an la sa sb) (h0 : 0 ≤ k) (hk : k < T.length) (h1 : an = true → la < ((T.getD k.toNat (dflt 8)).seq.toNat : Int)) : a < (tk (sa, sb) T).length ∧ (tk (sa, sb) T).getD a.toNat (dflt 8) = T.getD k.toNat (dflt 8) := by
  have o : ¬ old (stk (sa, sb) (T.take k.toNat)) (T.getD k.toNat (dflt 8)) = true := by rw [← h.c1]; exact old_f h1
  have A := tk_at (s := (sa, sb)) (l := T) (k := k.toNat) (by omega) o
  have e := h.c2
  exact ⟨by omega, by rw [show a.toNat = (tk (sa, sb) (T.take k.toNat)).length by omega]; exact A.2⟩
theorem rin_end {T : List Msg} {k a : Int} {an : Bool} {la : Int} {sa : Bool} {sb : Int} (h : RIn T k a an la sa sb) (hk : k = T.length) : a = (tk (sa, sb) T).length ∧ (an, la) = stk (sa, sb) T := by
  have e : T.take k.toNat = T := List.take_of_length_le (by omega)
  have h1 := h.c1
  have h2 := h.c2
  rw [e] at h1 h2
  exact ⟨h2, h1⟩
def risesLoops (ticks : List (List Msg)) : List Nat → Nat → Option LoopAnn := fun s r => match r with
  | 8 => some { V := Int × Bool × Int × Int, st := fun v => ⟨mk 157 [(1, .sl 11 ticks), (2, .ptr 1000 0), (5, .bool true), (6, .int .u32 v.2.2.1), (7, .bool v.2.1), (8, .int .i64 v.1)], [], [(1000, .cells [.bool v.2.1, .int .u32 v.2.2.1, .int .i64 v.2.2.2])]⟩, I := fun v => (0 ≤ v.1 ∧ v.1 ≤ ticks.length) ∧ (0 ≤ v.2.2.1 ∧ v.2.2.1 ≤ 4294967295) ∧ (-9223372036854775808 ≤ v.2.2.2 ∧ v.2.2.2 ≤ 9223372036854775807) ∧ ticks.length ≤ 1048576, μ := fun v => (ticks.length - v.1).toNat, key := fun v => v.1.toNat }
  | 17 => some { V := Int × Int × Bool × Int × Int × Bool × Int × Bool × Int × Int, st := fun v => ⟨mk 157 [(1, .sl 11 ticks), (2, .ptr 1000 0), (5, .bool true), (6, .int .u32 v.2.2.2.1), (7, .bool v.2.2.1), (8, .int .i64 v.2.2.2.2.1), (9, .ptr 13010 0), (10, .sl 8 (tk (v.2.2.2.2.2.1, v.2.2.2.2.2.2.1) (ticks.getD v.2.2.2.2.1.toNat (dflt 11)))), (12, .int .i64 v.2.1), (13, .int .i64 v.1)], [], [(1000, .cells [.bool v.2.2.2.2.2.1, .int .u32 v.2.2.2.2.2.2.1, .dead]), (13010, .cells [.bool v.2.2.2.2.2.2.2.1, .int .u32 v.2.2.2.2.2.2.2.2.1, .int .i64 v.2.2.2.2.2.2.2.2.2])]⟩, I := fun v => (0 ≤ v.1 ∧ v.1 ≤ (ticks.getD v.2.2.2.2.1.toNat (dflt 11)).length) ∧ (0 ≤ v.2.2.2.2.1 ∧ v.2.2.2.2.1 < ticks.length ∧ v.2.2.2.2.1 = (s.headD 0 : Nat)) ∧ RIn (ticks.getD v.2.2.2.2.1.toNat (dflt 11)) v.1 v.2.1 v.2.2.1 v.2.2.2.1 v.2.2.2.2.2.1 v.2.2.2.2.2.2.1 ∧ ROut (ticks.getD v.2.2.2.2.1.toNat (dflt 11)) v.2.2.2.2.2.2.2.1 v.2.2.2.2.2.2.2.2.1 v.2.2.2.2.2.2.2.2.2 v.2.2.2.2.2.1 v.2.2.2.2.2.2.1 ∧ (0 ≤ v.2.2.2.1 ∧ v.2.2.2.1 ≤ 4294967295) ∧ (0 ≤ v.2.2.2.2.2.2.2.2.1 ∧ v.2.2.2.2.2.2.2.2.1 ≤ 4294967295) ∧ (-9223372036854775808 ≤ v.2.2.2.2.2.2.2.2.2 ∧ v.2.2.2.2.2.2.2.2.2 ≤ 9223372036854775807) ∧ (ticks.getD v.2.2.2.2.1.toNat (dflt 11)).length ≤ 30 ∧ (0 ≤ v.2.1 ∧ v.2.1 ≤ v.1), μ := fun v => ((ticks.getD v.2.2.2.2.1.toNat (dflt 11)).length - v.1).toNat }
  | _ => none
end Go.Proofs.Ytpkfadgennejnaa

