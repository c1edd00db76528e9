/- Parts of a proof. -/
import Derived.Test.YtjbbfmofpjflmaaGreatDoorKr3
import Derived.Test.YtjbbfmofpjflmaaGreatDoorKr8
import Derived.Test.YtjbbfmofpjflmaaGreatDoorKr9
set_option linter.unusedVariables false
set_option linter.unusedSimpArgs false
namespace Go.Proofs.YtjbbfmofpjflmaaGreatDoor
open Go.RowKit
theorem tq (a b:List UInt8):(ByteArray.mk a.toArray)++(ByteArray.mk b.toArray)=⟨(a++b).toArray⟩:=by
 apply ByteArray.ext;rw [ByteArray.data_append]
 simp
end Go.Proofs.YtjbbfmofpjflmaaGreatDoor
