/- Parts of a proof. -/
import Derived.Test.YtcjglfbpjkdgiaaGreatDoorKc11
import Derived.Test.YtcjglfbpjkdgiaaGreatDoorKc12
import Derived.Test.YtcjglfbpjkdgiaaGreatDoorKc4
set_option linter.unusedVariables false
set_option linter.unusedSimpArgs false
namespace Go.Proofs.YtcjglfbpjkdgiaaGreatDoor
open Go.RowKit
theorem OB (a b:List UInt8):(ByteArray.mk a.toArray)++(ByteArray.mk b.toArray)=⟨(a++b).toArray⟩:=by
 apply ByteArray.ext;rw [ByteArray.data_append]
 simp
end Go.Proofs.YtcjglfbpjkdgiaaGreatDoor
