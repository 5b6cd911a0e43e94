import Derived.Test.YtcnnbofjgmohaaaRgC
import Derived.Test.YtcnnbofjgmohaaaRgE
namespace Go.Proofs.Ytcnnbofjgmohaaa
open Go Go.Eng Go.Rg Go.Proofs
set_option linter.unusedVariables false
theorem alive_ok : Holds Try.prog 6 trueS := by
  refine fn_sound (env := lenv) lenv_ok Try.func6 Try.call6 fun args k h => ?_
  match args, h with
  | [], h => exact ⟨by kernel_rfl, fun _ _ => none, fun _ _ => none, .cast (by kernel_rfl) h⟩

def T4 : Tab := (6, trueS) :: (7, newS) :: (8, pushS) :: (9, allS) :: (10, fullS) :: (14, sumS) :: (11, atS) :: []
theorem T4_ok : TabOk Try.prog T4 := ⟨alive_ok, rnew_ok, rpush_ok, rall_ok, rfull_ok, rsum_ok, rat_ok, trivial⟩
def lawIL : Eng.Spec := { ro := true, own := [], run := fun args _ k => match args with
  | [.int .i64 n, .sl 1 l] => inK .i64 n ∧ k (.bool true) [] []
  | _ => False }
def lawL : Eng.Spec := { ro := true, own := [], run := fun args _ k => match args with
  | [.sl 1 l] => k (.bool true) [] []
  | _ => False }
def lawILI : Eng.Spec := { ro := true, own := [], run := fun args _ k => match args with
  | [.int .i64 n, .sl 1 l, .int .i64 a] => inK .i64 n ∧ inK .i64 a ∧ k (.bool true) [] []
  | _ => False }
def lastLoops (n : Int) (l : List Int) : List Nat → Nat → Option LoopAnn := fun _ r => match r with
  | 10 => some { V := Int × Int × Int × List Int, st := fun v => ⟨mk 126 [(0, .int .i64 n), (1, .sl 1 l), (5, .bool true), (6, .ptr 7001 0), (8, .int .i64 v.1)], [], [(7001, .cells [.row 1 7002 0 n.toNat, .int .i64 v.2.1, .int .i64 v.2.2.1]), (7002, .row 1 v.2.2.2)]⟩, I := fun v => (0 ≤ v.1 ∧ v.1 ≤ l.length) ∧ rOk n.toNat v.2.1 v.2.2.1 v.2.2.2 ∧ RInv n.toNat v.2.1 v.2.2.1 v.2.2.2 (l.take v.1.toNat), μ := fun v => (l.length - v.1).toNat }
  | 17 => some { V := Int × Int × Int × List Int × Nat × List Int, st := fun v => ⟨mk 126 [(1, .sl 1 l), (5, .bool true), (6, .ptr 7001 0), (9, .row 1 14001 0 v.2.2.2.2.1), (11, .int .i64 v.1)], [], [(7001, .cells [.row 1 7002 0 n.toNat, .int .i64 v.2.1, .int .i64 v.2.2.1]), (7002, .row 1 v.2.2.2.1), (14001, .row 1 v.2.2.2.2.2)]⟩, I := fun v => (0 ≤ v.1 ∧ v.1 ≤ v.2.2.2.2.1) ∧ rOk n.toNat v.2.1 v.2.2.1 v.2.2.2.1 ∧ RInv n.toNat v.2.1 v.2.2.1 v.2.2.2.1 l ∧ v.2.2.2.2.2 = lastL n.toNat l ∧ v.2.2.2.2.2.length = v.2.2.2.2.1 ∧ (v.2.2.2.2.1 : Int) = v.2.2.1 ∧ (v.2.2.2.2.1 : Int) = min (l.length : Int) n, μ := fun v => (v.2.2.2.2.1 - v.1).toNat }
  | _ => none
def small50 (x : Int) : Prop := -1125899906842624 < x ∧ x < 1125899906842624
def sumLawLoops (l : List Int) : List Nat → Nat → Option LoopAnn := fun _ r => match r with
  | 12 => some { V := Int × Bool × Int × (Int × Int × List Int) × (Int × Int × List Int), st := fun v => ⟨mk 130 [(0, .sl 1 l), (3, .bool true), (4, .ptr 7002 0), (6, .ptr 8002 0), (8, .int .i64 v.1), (9, .bool v.2.1), (10, .int .i64 v.2.2.1)], [], [(7002, .cells [.row 1 7003 0 l.length, .int .i64 v.2.2.2.1.1, .int .i64 v.2.2.2.1.2.1]), (7003, .row 1 v.2.2.2.1.2.2), (8002, .cells [.row 1 8003 0 l.length, .int .i64 v.2.2.2.2.1, .int .i64 v.2.2.2.2.2.1]), (8003, .row 1 v.2.2.2.2.2.2)]⟩, I := fun v => (0 ≤ v.2.2.1 ∧ v.2.2.1 ≤ l.length) ∧ rOk l.length v.2.2.2.1.1 v.2.2.2.1.2.1 v.2.2.2.1.2.2 ∧ rOk l.length v.2.2.2.2.1 v.2.2.2.2.2.1 v.2.2.2.2.2.2 ∧ RInv l.length v.2.2.2.1.1 v.2.2.2.1.2.1 v.2.2.2.1.2.2 (l.take v.2.2.1.toNat) ∧ RInv l.length v.2.2.2.2.1 v.2.2.2.2.2.1 v.2.2.2.2.2.2 (l.reverse.take v.2.2.1.toNat) ∧ (v.2.1 = true → v.1 = sumL (l.take v.2.2.1.toNat) ∧ -1125899906842624 * v.2.2.1 ≤ v.1 ∧ v.1 ≤ 1125899906842624 * v.2.2.1), μ := fun v => (l.length - v.2.2.1).toNat }
  | _ => none
end Go.Proofs.Ytcnnbofjgmohaaa

