/- Parts of a proof. -/
import Derived.Test.YtcbmedfongiojaaGreatDoorKt24
import Derived.Test.YtcbmedfongiojaaGreatDoorKt34
set_option linter.unusedVariables false
set_option linter.unusedSimpArgs false
namespace Go.Proofs.YtcbmedfongiojaaGreatDoor
open Go.RowKit
def F7 (s:Sk.State):List UInt8:=Lib.itoa s.s0++58::Lib.itoa s.s1
end Go.Proofs.YtcbmedfongiojaaGreatDoor
