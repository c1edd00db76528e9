/- Parts of a proof. -/
import Derived.Laws.DeepStrings4
import Derived.Test.YtjbbfmofpjflmaaGreatDoorKr1
set_option linter.unusedVariables false
set_option linter.unusedSimpArgs false
namespace Go.Proofs.YtjbbfmofpjflmaaGreatDoor
open Go.RowKit
theorem jF (l:List UInt8):(ByteArray.mk l.toArray).size=l.length:=by show l.toArray.size=_;simp
end Go.Proofs.YtjbbfmofpjflmaaGreatDoor
