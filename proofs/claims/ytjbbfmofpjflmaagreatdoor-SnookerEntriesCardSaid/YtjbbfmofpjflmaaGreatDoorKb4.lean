/- Parts of a proof. -/
import Derived.Laws.DeepStrings4
import Derived.Test.YtjbbfmofpjflmaaGreatDoorKb2
set_option linter.unusedVariables false
set_option linter.unusedSimpArgs false
namespace Go.Proofs.YtjbbfmofpjflmaaGreatDoor
open Go.RowKit
theorem jC (l:List UInt8):(ByteArray.mk l.toArray).size=l.length:=by show l.toArray.size=_;simp
end Go.Proofs.YtjbbfmofpjflmaaGreatDoor
