import Derived.Test.YtcnnbofjgmohaaaRgK
namespace Go.Proofs.Ytcnnbofjgmohaaa
open Go Go.Eng Go.Rg Go.Proofs
set_option linter.unusedVariables false
def T6 : Tab := (12, fnewS) :: (16, flastS) :: (13, fatS) :: (17, fsumS) :: (15, fsameS) :: (18, fpushS) :: T4
theorem T6_ok : TabOk Try.prog T6 := ⟨fnew_ok, flast_ok, fat_ok, fsum_ok, fsame_ok, fpushF_ok, T4_ok⟩
end Go.Proofs.Ytcnnbofjgmohaaa

