/- Parts of a proof. -/
import Derived.Deep.DeepCutAuto
import Derived.Deep.RegionHeld3
import Derived.Test.YtcbmedfongiojaaGreatDoorKt2
set_option linter.unusedVariables false
set_option linter.unusedSimpArgs false
namespace Go.Proofs.YtcbmedfongiojaaGreatDoor
open Go.RowKit
def colour (s:M.State) (b:Int):Bool:=b≠8∧(s.group=0∨M.side b=M.own s)
end Go.Proofs.YtcbmedfongiojaaGreatDoor
