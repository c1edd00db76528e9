/- Parts of a proof. -/
import Derived.Test.YtcbmedfongiojaaGreatDoorKb1
import Derived.Test.YtcbmedfongiojaaGreatDoorKt15
set_option linter.unusedVariables false
set_option linter.unusedSimpArgs false
namespace Go.Proofs.YtcbmedfongiojaaGreatDoor
open Go.RowKit
section
variable {w w':World} {S S':Nat→Prop} {A:Option Addr} {c:Nat} {l:List ByteArray}
end
def bare (l:List En):List Sk.Entry:=l.map (·.x)
section
variable {w w':World} {S S':Nat→Prop} {A:Option Addr} {c:Nat} {l:List En} {e:En}
end
end Go.Proofs.YtcbmedfongiojaaGreatDoor
