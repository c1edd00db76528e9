/- Parts of a proof. -/
import Derived.Laws.Strings
import Derived.Lib.Hide
set_option linter.unusedVariables false
set_option linter.unusedSimpArgs false
namespace Go.Proofs.YtjbbfmofpjflmaaGreatDoor
namespace M
theorem toList_mk (l:List UInt8):(ByteArray.mk l.toArray).toList=l:=by rw [ByteArray.toList_eq]
section
end
end M
end Go.Proofs.YtjbbfmofpjflmaaGreatDoor
