/- Parts of a proof. -/
import Derived.Deep.DeepCutAuto
import Derived.Deep.RegionHeld3
import Derived.Test.YtjbbfmofpjflmaaGreatDoorKb2
set_option linter.unusedVariables false
set_option linter.unusedSimpArgs false
namespace Go.Proofs.YtjbbfmofpjflmaaGreatDoor
open Go.RowKit
def colour (s:M.State) (b:Int):Bool:=b≠8∧(s.group=0∨M.side b=M.own s)
end Go.Proofs.YtjbbfmofpjflmaaGreatDoor
