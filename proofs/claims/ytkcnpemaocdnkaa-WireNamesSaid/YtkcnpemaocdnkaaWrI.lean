import Derived.Test.YtkcnpemaocdnkaaWrH
namespace Go.Proofs.Ytkcnpemaocdnkaa
open Go Go.Eng Go.Wr Go.Proofs
set_option linter.unusedVariables false
theorem alive_ok : Holds Try.prog 8 trueS := by
  refine fn_sound (env := lenv) lenv_ok Try.func8 Try.call8 fun args k h => ?_
  match args, h with
  | [], h => exact ⟨by kernel_rfl, fun _ _ => none, fun _ _ => none, .cast (by kernel_rfl) h⟩

def sameN : Eng.Spec := { sameS with run := fun args B k => sameS.run (args.map (nilC 6)) B k }
theorem sameN_ok : Holds Try.prog 15 sameN := same_ok.nilC 6
def T4 : Tab := [(8, trueS), (9, nextR), (13, nextR), (10, runS), (14, runS), (11, heavyS), (16, smallS), (17, joinedS), (12, twinS), (15, sameN)]
theorem T4_ok : TabOk Try.prog T4 := ⟨alive_ok, nextR_ok, rnextR_ok, run_ok, rrun_ok, heavy_ok, small_ok, joined_ok, twin_ok, sameN_ok, trivial⟩
def lawKeeps : Eng.Spec := { ro := true, own := [], run := fun args _ k => match args with
  | [.sl 6 l, .sl 4 hold] => l.length ≤ 1048576 ∧ tot l ≤ 1048576 ∧ hold.length ≤ 1048576 ∧ k (.bool true) [] []
  | _ => False }
def keepsLoops (l : List (List UInt8)) (hold : List Bool) : List Nat → Nat → Option LoopAnn := fun _ r => match r with
  | 8 => some { V := Int × List UInt8, st := fun v => ⟨mk 77 [(0, .sl 6 l), (1, .sl 4 hold), (5, .bool true), (6, .row 0 7002 0 l.length), (7, .row 1 7005 0 l.length), (8, .int .i64 v.1)], [], [(7002, .row 0 v.2), (7005, .row 1 (List.replicate l.length (0 : Int) : List Int))]⟩, I := fun v => (0 ≤ v.1 ∧ v.1 + 1 ≤ l.length) ∧ v.2.length = l.length ∧ (∀ j : Nat, (v.2.getD j 0).toNat = 0 ∨ (v.2.getD j 0).toNat = 3) ∧ (∀ j : Nat, v.1.toNat ≤ j → (v.2.getD j 0).toNat = 0) ∧ l.length ≤ 200 ∧ tot l ≤ 16384, μ := fun v => (l.length - v.1).toNat }
  | _ => none
def lawMuch : Eng.Spec := { ro := true, own := [], run := fun args _ k => match args with
  | [.sl 6 l, .sl 0 w, .sl 1 a] => l.length ≤ 1048576 ∧ tot l ≤ 1048576 ∧ w.length ≤ 1048576 ∧ a.length ≤ 1048576 ∧ k (.bool true) [] []
  | _ => False }
def muchLoops (l : List (List UInt8)) (w : List UInt8) (a : List Int) : List Nat → Nat → Option LoopAnn := fun _ r => match r with
  | 12 => some { V := Int × Int × List UInt8 × List (List UInt8), st := fun v => ⟨mk 85 [(0, .sl 6 l), (2, .sl 1 a), (7, .bool true), (8, .row 6 7003 0 l.length), (10, .int .i64 v.2.1), (11, .row 0 11002 0 l.length), (12, .int .i64 v.1)], [], [(7003, .row 6 v.2.2.2), (11002, .row 0 v.2.2.1)]⟩, I := fun v => (0 ≤ v.1 ∧ v.1 ≤ l.length) ∧ v.2.2.1.length = l.length ∧ (∀ j : Nat, j < v.1.toNat → (v.2.2.1.getD j 0).toNat = 1) ∧ v.2.1 = tot l ∧ v.2.2.2 = outs l w a l.length ∧ rE l w a = 0 ∧ l.length ≤ 200 ∧ tot l ≤ 16384, μ := fun v => (l.length - v.1).toNat }
  | _ => none
def lawTicks : Eng.Spec := { ro := true, own := [], run := fun args _ k => match args with
  | [.sl 0 held, .sl 0 ins, .int .u8 what, .int .i64 p, .sl 6 l, .sl 0 w, .sl 1 a] => inK .u8 what ∧ inK .i64 p ∧ held.length ≤ 1048576 ∧ ins.length ≤ 1048576 ∧ l.length ≤ 1048576 ∧ tot l ≤ 1048576 ∧ w.length ≤ 1048576 ∧ a.length ≤ 1048576 ∧ k (.bool true) [] []
  | _ => False }
def ticksLoops (held ins : List UInt8) (l : List (List UInt8)) : List Nat → Nat → Option LoopAnn := fun _ r => match r with
  | 12 => some { V := Int × Nat × List UInt8 × Nat × List UInt8, st := fun v => ⟨mk 163 [(0, .sl 0 held), (1, .sl 0 ins), (4, .sl 6 l), (15, .row 0 4001 0 held.length), (16, .row 0 4003 0 ins.length), (17, .sl 6 l), (18, .row 0 6004 0 v.2.1), (19, .row 0 6005 0 v.2.2.2.1), (28, .int .i64 v.1)], [], [(4001, .row 0 held), (4003, .row 0 ins), (6004, .row 0 v.2.2.1), (6005, .row 0 v.2.2.2.2)]⟩, I := fun v => (0 ≤ v.1 ∧ v.1 ≤ v.2.1) ∧ v.2.2.1.length = v.2.1 ∧ v.2.2.2.2.length = v.2.2.2.1, μ := fun v => (v.2.1 - v.1).toNat }
  | 16 => some { V := Int × Nat × List UInt8, st := fun v => ⟨mk 163 [(0, .sl 0 held), (1, .sl 0 ins), (4, .sl 6 l), (15, .row 0 4001 0 held.length), (16, .row 0 4003 0 ins.length), (17, .sl 6 l), (19, .row 0 6005 0 v.2.1), (29, .int .i64 v.1)], [], [(4001, .row 0 held), (4003, .row 0 ins), (6005, .row 0 v.2.2)]⟩, I := fun v => (0 ≤ v.1 ∧ v.1 ≤ v.2.1) ∧ v.2.2.length = v.2.1, μ := fun v => (v.2.1 - v.1).toNat }
  | _ => none
end Go.Proofs.Ytkcnpemaocdnkaa

