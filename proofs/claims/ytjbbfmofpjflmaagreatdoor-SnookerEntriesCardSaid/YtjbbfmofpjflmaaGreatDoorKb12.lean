/- Parts of a proof. -/
import Derived.Test.YtjbbfmofpjflmaaGreatDoorKb10
import Derived.Test.YtjbbfmofpjflmaaGreatDoorKb11
import Derived.Test.YtjbbfmofpjflmaaGreatDoorKb4
set_option linter.unusedVariables false
set_option linter.unusedSimpArgs false
namespace Go.Proofs.YtjbbfmofpjflmaaGreatDoor
open Go.RowKit
theorem sV (a b:List UInt8):(ByteArray.mk a.toArray)++(ByteArray.mk b.toArray)=⟨(a++b).toArray⟩:=by
 apply ByteArray.ext;rw [ByteArray.data_append]
 simp
end Go.Proofs.YtjbbfmofpjflmaaGreatDoor
