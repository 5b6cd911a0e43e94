import Derived.Test.YtiekaipompepdaaBkI
namespace Go.Proofs.Ytiekaipompepdaa
open Go Go.Eng Go.Bk Go.Proofs
set_option linter.unusedVariables false
def N9 : Tab := [(17, twinS), (13, newD), (18, newD), (10, rdD), (19, rdD), (11, writeD), (20, writeD), (9, doD), (21, doD), (14, manyS), (16, checkS), (22, checkS), (24, rmanyS), (23, sameS), (12, sameS)]
theorem N9_ok : TabOk Try.prog N9 := ⟨twin_ok, new_up new_ok, new_up rnew_ok, rd_up bread_ok, rd_up rbread_ok, bwrite_ok, write_up rbwrite_ok, do_up bdo_ok, do_up rbdo_ok, many_ok, check_ok, rcheck_ok, rmany_ok, lsame_ok, bsame_ok, trivial⟩
def lawDoes : Eng.Spec := { ro := true, own := [], run := fun args _ k => match args with
  | [.agg [.sl 0 d], .sl 9 l, .int .i64 w, .int .i64 t, .int .i64 n, .sl 0 b] => inK .i64 w ∧ inK .i64 t ∧ inK .i64 n ∧ k (.bool true) [] []
  | _ => False }
def doesLoops (d : List UInt8) (l : List Put) (w t n : Int) (b : List UInt8) : List Nat → Nat → Option LoopAnn := fun s r => match r with
  | 4 => some { V := Nat, st := fun v => ⟨mk 249 [(1, .sl 9 l), (2, .int .i64 w), (3, .int .i64 t), (4, .int .i64 n), (5, .sl 0 b), (6, .ptr 1000 0), (13, .int .i64 v)], [], [(1000, .cells [.sl 0 d])]⟩, I := fun v => v ≤ l.length ∧ (d.length ≤ 10000 ∧ l.length ≤ 100 ∧ b.length ≤ 10000), μ := fun v => l.length - v }
  | 23 => some { V := Nat × Nat × List UInt8 × Nat × List UInt8, st := fun v => ⟨mk 249 [(5, .sl 0 b), (6, .ptr 1000 0), (14, .ptr 9002 0), (15, .row 0 7772 0 b.length), (20, .row 0 7773 0 v.2.1), (28, .ptr 17008 0), (35, .int .i64 v.1)], [], [(1000, .cells [.sl 0 d]), (9002, .cells [.row 0 7771 0 d.length]), (7771, .row 0 d), (7772, .row 0 b), (7773, .row 0 v.2.2.1), (17008, .cells [.row 0 7774 0 v.2.2.2.1]), (7774, .row 0 v.2.2.2.2)]⟩, I := fun v => v.1 ≤ v.2.1 ∧ v.2.2.1.length = v.2.1 ∧ v.2.2.2.2.length = v.2.2.2.1, μ := fun v => v.2.1 - v.1, boxes := [(1001400, 7771, 0), (15, 7772, 0), (20, 7773, 0), (1002800, 7774, 0)] }
  | 27 => some { V := Nat × Nat × List UInt8, st := fun v => ⟨mk 249 [(5, .sl 0 b), (6, .ptr 1000 0), (14, .ptr 9002 0), (15, .row 0 7772 0 b.length), (28, .ptr 17008 0), (36, .int .i64 v.1)], [], [(1000, .cells [.sl 0 d]), (9002, .cells [.row 0 7771 0 d.length]), (7771, .row 0 d), (7772, .row 0 b), (17008, .cells [.row 0 7774 0 v.2.1]), (7774, .row 0 v.2.2)]⟩, I := fun v => v.1 ≤ v.2.1 ∧ v.2.2.length = v.2.1, μ := fun v => v.2.1 - v.1, boxes := [(1001400, 7771, 0), (15, 7772, 0), (1002800, 7774, 0)] }
  | _ => none
end Go.Proofs.Ytiekaipompepdaa

