import Derived.Test.YtkcnpemaocdnkaaWrI
namespace Go.Proofs.Ytkcnpemaocdnkaa
open Go Go.Eng Go.Wr Go.Proofs
set_option linter.unusedVariables false
def runN : Eng.Spec := { runS with run := fun args B k => runS.run (nil3 6 0 1 args) B k }
theorem runN_ok : Holds Try.prog 10 runN := run_ok.argUp (nil3 6 0 1) (nil3_len 6 0 1) (nil3_rep 6 0 1)
def T6 : Tab := [(8, trueS), (9, nextF), (10, runN)]
theorem T6_ok : TabOk Try.prog T6 := ⟨alive_ok, nextF_ok, runN_ok, trivial⟩
end Go.Proofs.Ytkcnpemaocdnkaa

