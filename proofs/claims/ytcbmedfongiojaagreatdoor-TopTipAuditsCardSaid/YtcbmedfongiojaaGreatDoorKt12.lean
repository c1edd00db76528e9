/- Parts of a proof. -/
import Derived.Test.YtcbmedfongiojaaGreatDoorKt10
import Derived.Test.YtcbmedfongiojaaGreatDoorKt11
import Derived.Test.YtcbmedfongiojaaGreatDoorKt4
set_option linter.unusedVariables false
set_option linter.unusedSimpArgs false
namespace Go.Proofs.YtcbmedfongiojaaGreatDoor
open Go.RowKit
theorem NQ (a b:List UInt8):(ByteArray.mk a.toArray)++(ByteArray.mk b.toArray)=⟨(a++b).toArray⟩:=by
 apply ByteArray.ext;rw [ByteArray.data_append]
 simp
end Go.Proofs.YtcbmedfongiojaaGreatDoor
