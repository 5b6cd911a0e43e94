import Derived.Test.YtiekaipompepdaaBkH
namespace Go.Proofs.Ytiekaipompepdaa
open Go Go.Eng Go.Bk Go.Proofs
set_option linter.unusedVariables false
def N8 : Tab := [(8, alvS), (11, writeD), (10, rdD), (9, doD), (12, sameS), (13, newD), (14, manyS), (16, checkS), (15, onesS)]
theorem N8_ok : TabOk Try.prog N8 := ⟨alive_ok, bwrite_ok, rd_up bread_ok, do_up bdo_ok, bsame_ok, new_up new_ok, many_ok, check_ok, ones_ok, trivial⟩
def lawLast : Eng.Spec := { ro := true, own := [], run := fun args _ k => match args with
  | [.agg [.sl 0 d], .int .i64 n, .int .i64 m, .sl 0 b] => inK .i64 n ∧ inK .i64 m ∧ k (.bool true) [] []
  | _ => False }
end Go.Proofs.Ytiekaipompepdaa

