/- Parts of a proof. -/
import Derived.Laws.Strings
import Derived.Test.YtcbmedfongiojaaGreatDoorKt0
set_option linter.unusedVariables false
set_option linter.unusedSimpArgs false
namespace Go.Proofs.YtcbmedfongiojaaGreatDoor
namespace M
theorem toList_mk (l:List UInt8):(ByteArray.mk l.toArray).toList=l:=by rw [ByteArray.toList_eq]
section
variable {x:oH}
end
end M
end Go.Proofs.YtcbmedfongiojaaGreatDoor
