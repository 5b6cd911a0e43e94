import Derived.Test.YtcdflgfhkohldaaSuB
import Derived.Test.YtcdflgfhkohldaaSvA
namespace Go.Proofs.Ytcdflgfhkohldaa
open Go Go.Eng Go.Rw Go.Lk Go.Proofs
open Go.Bk hiding take_step drop_step set_mid
open Go.St hiding take_step
set_option linter.unusedVariables false
def putzN : Eng.Spec := { putzT with run := fun args B k => putzT.run (args.map (nilC 10)) B k }
theorem putzN_ok : Holds Try.prog 19 putzN := Holds.nilC 10 putzT_ok
def doneN : Eng.Spec := { doneT with run := fun args B k => doneT.run (args.map (nilC 10)) B k }
theorem doneN_ok : Holds Try.prog 28 doneN := Holds.nilC 10 done_ok
def H9 : Tab := [(15, formatT), (31, oneT), (28, doneN), (17, rReadT), (19, putzN), (21, rSlotT), (26, aliveS)]
theorem H9_ok : TabOk Try.prog H9 := ⟨formatT_ok, one19T_ok, doneN_ok, zReadT_ok, putzN_ok, zSlotT_ok, alive19_ok, trivial⟩
end Go.Proofs.Ytcdflgfhkohldaa

