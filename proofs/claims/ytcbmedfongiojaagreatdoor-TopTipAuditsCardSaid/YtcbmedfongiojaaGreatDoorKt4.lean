/- Parts of a proof. -/
import Derived.Laws.DeepStrings4
import Derived.Test.YtcbmedfongiojaaGreatDoorKt2
set_option linter.unusedVariables false
set_option linter.unusedSimpArgs false
namespace Go.Proofs.YtcbmedfongiojaaGreatDoor
open Go.RowKit
theorem lM (l:List UInt8):(ByteArray.mk l.toArray).size=l.length:=by show l.toArray.size=_;simp
end Go.Proofs.YtcbmedfongiojaaGreatDoor
