import Derived.Test.YtpkfadgennejnaaLkE
namespace Go.Proofs.Ytpkfadgennejnaa
open Go Go.Eng Go.Lk Go.Proofs
set_option linter.unusedVariables false
set_option maxHeartbeats 2000000 in
theorem alive_vc (k : AV → List (Option Blk) → List Blk → Prop) (hk : k (AV.bool true) [] []) :
 ((List.take (4 : Nat) (List.drop (0 : Nat) [UInt32.ofNat (Int.toNat (5 : Int)), UInt32.ofNat (Int.toNat (7 : Int)), UInt32.ofNat (Int.toNat (6 : Int)), UInt32.ofNat (Int.toNat (7 : Int))])).length ≤ (1000000 : Nat)) ∧
 ∀ (ys_1 : List Msg),
 ∀ (n_2 : Nat),
 (ys_1 = List.map msg (List.take (4 : Nat) (List.drop (0 : Nat) [UInt32.ofNat (Int.toNat (5 : Int)), UInt32.ofNat (Int.toNat (7 : Int)), UInt32.ofNat (Int.toNat (6 : Int)), UInt32.ofNat (Int.toNat (7 : Int))]))) →
 (ys_1.length = n_2) →
 (
 ((0 : Int) ≤ (0 : Int)) ∧
 ((0 : Int) ≤ (4294967295 : Int))) ∧
 (
 ((-9223372036854775808 : Int) ≤ (0 : Int)) ∧
 ((0 : Int) ≤ (9223372036854775807 : Int))) ∧
 (
 ∀ (e_5 : Int),
 (e_5 = lE false (0 : Int) (0 : Int) (List.take n_2 (List.drop (0 : Nat) ys_1))) →
 (e_5 ≠ (0 : Int)) →
 ∀ (n8 : Int),
 (n8 = (0 : Int)) →
 br (bif e_5 == (0 : Int) then n8 == (2 : Int) else false)
  ((False))
  ((false = false) ∧
  (false = false) ∧
  (k (AV.bool (bif false then false == true && ((0 : Int) == (7 : Int) && ((0 : Int) == (0 : Int) && true)) else false)) [] []))) ∧
 ((lE false (0 : Int) (0 : Int) (List.take n_2 (List.drop (0 : Nat) ys_1)) = (0 : Int)) →
 ∀ (b_11 : Bool),
 ∀ (l_12 : Int),
 ∀ (a_13 : Int),
 ∀ (ys_14 : List Msg),
 ∀ (n_15 : Nat),
 ((b_11, l_12) = stk (false, (0 : Int)) (List.take n_2 (List.drop (0 : Nat) ys_1))) →
 ((0 : Int) ≤ l_12 ∧ l_12 ≤ (4294967295 : Int)) →
 (ys_14 = tk (false, (0 : Int)) (List.take n_2 (List.drop (0 : Nat) ys_1))) →
 (ys_14.length = n_15) →
 (a_13 = ageN (0 : Int) n_15) →
 ∀ (n21 : Int),
 (n21 = (↑n_15 : Int)) →
 (
 ((bif (0 : Int) == (0 : Int) then n21 == (2 : Int) else false) = true) →
 ((0 : Int) ≤ (0 : Int)) ∧
 ((0 : Int) < (↑n_15 : Int))) ∧
 (
 ((bif (0 : Int) == (0 : Int) then n21 == (2 : Int) else false) = true) →
 ((0 : Nat) + Int.toNat (0 : Int) < ys_14.length)) ∧
 ∀ (n25 : Int),
 (n25 = (↑(ys_14.getD ((0 : Nat) + Int.toNat (0 : Int)) (dflt (8 : Nat))).seq.toNat : Int)) →
 (
 ((bif bif (0 : Int) == (0 : Int) then n21 == (2 : Int) else false then n25 == (5 : Int) else false) = true) →
 ((0 : Int) ≤ (1 : Int)) ∧
 ((1 : Int) < (↑n_15 : Int))) ∧
 (
 ((bif bif (0 : Int) == (0 : Int) then n21 == (2 : Int) else false then n25 == (5 : Int) else false) = true) →
 ((0 : Nat) + Int.toNat (1 : Int) < ys_14.length)) ∧
 ∀ (n29 : Int),
 (n29 = (↑(ys_14.getD ((0 : Nat) + Int.toNat (1 : Int)) (dflt (8 : Nat))).seq.toNat : Int)) →
 (k (AV.bool (bif bif bif bif (0 : Int) == (0 : Int) then n21 == (2 : Int) else false then n25 == (5 : Int) else false then n29 == (7 : Int) else false then b_11 == true && (l_12 == (7 : Int) && (a_13 == (0 : Int) && true)) else false)) [] [])) := by
 refine ⟨by decide, ?_⟩
 intro ys_1
 intro n_2
 intro h1
 intro h2
 refine ⟨by first | omega | (dsimp only; omega), ?_⟩
 refine ⟨by first | omega | (dsimp only; omega), ?_⟩
 refine ⟨?_, ?_⟩
 ·
  intro e_5
  intro h3
  intro h4
  intro n8
  intro q8
  refine br_intro (fun c5 => ?_) (fun c5 => ?_)
  ·
   simp at c5
   exfalso; omega
  ·
   simp at c5
   refine ⟨by with_reducible rfl, ?_⟩
   refine ⟨by with_reducible rfl, ?_⟩
   have e : List.take n_2 (List.drop 0 ys_1) = [msg 5, msg 7, msg 6, msg 7] := by
    rw [List.drop_zero, List.take_of_length_le (by omega), h1]; rfl
   exact absurd (h3.trans (by rw [e]; decide +kernel)) h4
 intro q8
 intro b_11
 intro l_12
 intro a_13
 intro ys_14
 intro n_15
 intro h6
 intro ⟨a7, b7⟩
 intro h8
 intro h9
 intro h10
 intro n21
 intro q21
 refine ⟨?_, ?_⟩
 ·
  intro q21
  simp at q21
  refine ⟨by first | omega | (dsimp only; omega), ?_⟩
  exact by omega
 refine ⟨?_, ?_⟩
 ·
  intro q21
  simp at q21
  exact by omega
 intro n25
 intro q25
 refine ⟨?_, ?_⟩
 ·
  intro q25
  simp at q25
  refine ⟨by first | omega | (dsimp only; omega), ?_⟩
  exact by omega
 refine ⟨?_, ?_⟩
 ·
  intro q25
  simp at q25
  exact by omega
 intro n29
 intro q29
 have e : List.take n_2 (List.drop 0 ys_1) = [msg 5, msg 7, msg 6, msg 7] := by
  rw [List.drop_zero, List.take_of_length_le (by omega), h1]; rfl
 rw [e] at h6 h8
 have t : ys_14 = [msg 5, msg 7] := h8.trans rfl
 have u : (b_11, l_12) = (true, (7 : Int)) := h6.trans rfl
 obtain ⟨rfl, rfl⟩ := Prod.mk.inj u
 have hn : n_15 = 2 := by rw [← h9, t]; rfl
 have ha : a_13 = 0 := by rw [h10, hn]; rfl
 rw [t] at q25 q29
 have e1 : n21 = 2 := by rw [q21, hn]; rfl
 have e2 : n25 = 5 := q25
 have e3 : n29 = 7 := q29
 exact k_true hk (by rw [e1, e2, e3, ha]; rfl)

theorem alive_ok : Holds Try.prog 10 trueS := by
  refine fn_sound (env := mkEnv T2) (tab_ok T2_ok) Try.func10 Try.call10 fun args k h => ?_
  match args, h with
  | [], h => exact ⟨by kernel_rfl, fun _ _ => none, fun _ _ => none, .cast (by kernel_rfl) (alive_vc  k h)⟩
def T3 : Tab := [(12, nextS), (13, ofS), (10, trueS), (14, freshS)]
theorem T3_ok : TabOk Try.prog T3 := ⟨next_ok, of_ok, alive_ok, fresh_ok, trivial⟩
def lawAll : Eng.Spec := { ro := true, own := [], run := fun args _ k => match args with
  | [.int .u32 f, .sl 4 cuts, .sl 4 again] => inK .u32 f ∧ k (.bool true) [] []
  | _ => False }
def allLoops (f : Int) (cuts again : List Bool) : List Nat → Nat → Option LoopAnn := fun s r => match r with
  | 10 => some { V := Int × Int × Bool × Int × Int × List Msg, st := fun v => ⟨mk 108 [(0, .int .u32 f), (1, .sl 4 cuts), (2, .sl 4 again), (7, .bool true), (8, .ptr 7001 0), (9, .row 8 7777 0 v.2.2.2.2.2.length), (10, .int .i64 v.2.1), (11, .int .i64 v.1)], [], [(7001, .cells [.bool v.2.2.1, .int .u32 v.2.2.2.1, .int .i64 v.2.2.2.2.1]), (7777, .row 8 v.2.2.2.2.2)]⟩, I := fun v => (0 ≤ v.2.1 ∧ v.2.1 ≤ v.1 ∧ v.1 ≤ cuts.length) ∧ (0 ≤ v.2.2.2.1 ∧ v.2.2.2.1 ≤ 4294967295) ∧ (0 ≤ v.2.2.2.2.1 ∧ v.2.2.2.2.1 ≤ 1048576) ∧ (v.2.2.1, v.2.2.2.1) = st f v.2.1 ∧ Pend f v.1 v.2.1 v.2.2.2.2.2 ∧ (v.1 = cuts.length → v.2.1 = v.1), μ := fun v => (cuts.length - v.1).toNat, boxes := [(9, 7777, 8)], key := fun v => v.1.toNat }
  | 20 => some { V := Int × Int × Int × Nat × List Msg × Bool × Int × Int, st := fun v => ⟨mk 108 [(0, .int .u32 f), (1, .sl 4 cuts), (2, .sl 4 again), (7, .bool true), (8, .ptr 7001 0), (10, .int .i64 v.2.1), (11, .int .i64 v.2.2.1), (12, .ptr 17007 0), (13, .row 8 17002 0 v.2.2.2.1), (15, .int .i64 v.1)], [], [(7001, .cells [.dead, .dead, .dead]), (17002, .row 8 v.2.2.2.2.1), (17007, .cells [.bool v.2.2.2.2.2.1, .int .u32 v.2.2.2.2.2.2.1, .int .i64 v.2.2.2.2.2.2.2])]⟩, I := fun v => (0 ≤ v.1 ∧ v.1 ≤ v.2.2.2.1) ∧ v.2.2.2.2.1.length = v.2.2.2.1 ∧ (0 ≤ v.2.2.1 ∧ v.2.2.1 < cuts.length ∧ v.2.2.1 = (s.headD 0 : Nat)) ∧ v.2.1 + (v.2.2.2.1 - v.1) = v.2.2.1 + 1 ∧ v.1 ≤ v.2.1 ∧ (∀ j : Nat, j < v.2.2.2.1 → ((v.2.2.2.2.1.getD j (dflt 8)).seq.toNat : Int) = f + (v.2.1 - v.1) + j) ∧ (v.2.2.2.2.2.1, v.2.2.2.2.2.2.1) = st f (v.2.2.1 + 1) ∧ (0 ≤ v.2.2.2.2.2.2.1 ∧ v.2.2.2.2.2.2.1 ≤ 4294967295) ∧ (0 ≤ v.2.2.2.2.2.2.2 ∧ v.2.2.2.2.2.2.2 ≤ 1048576), μ := fun v => (v.2.2.2.1 - v.1).toNat }
  | _ => none
def lawFresh : Eng.Spec := { ro := true, own := [], run := fun args _ k => match args with
  | [.agg [.bool an, .int .u32 la, .int .i64 ag], .agg [.int .u8 kd, .int .u32 sq, .sl 0 bo], .int .i64 ticks, .int .i64 w] => inK .u32 la ∧ inK .i64 ag ∧ inK .u8 kd ∧ inK .u32 sq ∧ inK .i64 ticks ∧ inK .i64 w ∧ k (.bool true) [] []
  | _ => False }
def freshLoops (kd sq : Int) (bo : List UInt8) (ticks w : Int) : List Nat → Nat → Option LoopAnn := fun _ r => match r with
  | 10 => some { V := Int, st := fun v => ⟨mk 105 [(2, .int .i64 ticks), (3, .int .i64 w), (5, .ptr 1001 0), (9, .bool true), (10, .ptr 7008 0), (13, .int .i64 v)], [], [(1001, .cells [.int .u8 kd, .int .u32 sq, .sl 0 bo]), (7008, .cells [.bool true, .int .u32 sq, .int .i64 v])]⟩, I := fun v => (0 ≤ v ∧ v ≤ ticks + 1) ∧ (0 ≤ ticks ∧ ticks ≤ 200) ∧ bo.length ≤ 512, μ := fun v => (ticks + 1 - v).toNat }
  | _ => none
end Go.Proofs.Ytpkfadgennejnaa

