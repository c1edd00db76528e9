/- Parts of a proof. -/
import Derived.Test.YtjbbfmofpjflmaaGreatDoorKb0
set_option linter.unusedVariables false
set_option linter.unusedSimpArgs false
namespace Go.Proofs.YtjbbfmofpjflmaaGreatDoor
namespace M
def pieces (x:gy):List (List UInt8):=letter x.dK::x.kind.toList::tail x
def print (x:gy):List UInt8:=join (pieces x)
end M
end Go.Proofs.YtjbbfmofpjflmaaGreatDoor
