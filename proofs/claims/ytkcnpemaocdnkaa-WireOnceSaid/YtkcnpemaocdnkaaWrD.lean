import Derived.Test.YtkcnpemaocdnkaaWrC
namespace Go.Proofs.Ytkcnpemaocdnkaa
open Go Go.Eng Go.Wr Go.Proofs
set_option linter.unusedVariables false
theorem alive_ok : Holds Try.prog 8 trueS := by
  refine fn_sound (env := lenv) lenv_ok Try.func8 Try.call8 fun args k h => ?_
  match args, h with
  | [], h => exact ⟨by kernel_rfl, fun _ _ => none, fun _ _ => none, .cast (by kernel_rfl) h⟩

def nextN : Eng.Spec := { nextS with run := fun args B k => nextS.run (args.map nilB) B k }
theorem nextN_ok : Holds Try.prog 9 nextN := wnext_ok.nil
def T2 : Tab := [(8, trueS), (9, nextN)]
theorem T2_ok : TabOk Try.prog T2 := ⟨alive_ok, nextN_ok, trivial⟩
def lawOnce : Eng.Spec := { ro := true, own := [], run := fun args _ k => match args with
  | [.sl 0 held, .sl 0 ins, .int .u8 what, .int .i64 p] => inK .u8 what ∧ inK .i64 p ∧ k (.bool true) [] []
  | _ => False }
def onceLoops (held ins : List UInt8) (what p : Int) : List Nat → Nat → Option LoopAnn := fun _ r => match r with
  | 18 => some { V := Int × Int × Nat × List UInt8, st := fun v => ⟨mk 161 [(1, .sl 0 ins), (2, .int .u8 what), (3, .int .i64 p), (9, .bool true), (13, .row 0 7004 held.length v.2.2.1), (14, .int .i64 v.1), (15, .int .i64 v.2.1)], [], [(7004, .row 0 v.2.2.2)]⟩, I := fun v => (0 ≤ v.2.1 ∧ v.2.1 ≤ v.2.2.1) ∧ v.2.2.2 = held ++ wOut ins what p ∧ v.2.2.1 = (wOut ins what p).length ∧ v.2.2.2.length = held.length + v.2.2.1 ∧ v.2.2.1 ≤ 40000 ∧ (ins.length = 0 → v.2.2.1 = 0) ∧ v.1 = df (wOut ins what p) ins v.2.1.toNat ∧ (0 ≤ v.1 ∧ v.1 ≤ v.2.1) ∧ what ≠ 3 ∧ wE held.length ins.length what p = 0, μ := fun v => (v.2.2.1 - v.2.1).toNat }
  | _ => none
end Go.Proofs.Ytkcnpemaocdnkaa

