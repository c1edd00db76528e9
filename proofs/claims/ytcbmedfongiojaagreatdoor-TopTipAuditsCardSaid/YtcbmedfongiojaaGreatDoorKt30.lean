/- Parts of a proof. -/
import Derived.IntWalk
import Derived.Test.YtcbmedfongiojaaGreatDoorKt15
set_option linter.unusedVariables false
set_option linter.unusedSimpArgs false
namespace Go.Proofs.YtcbmedfongiojaaGreatDoor
open Go.RowKit
theorem Held.sub {W:World} {g:Nat} {cs:List Value} {t:TypeId} (h:Held W g cs t) (o:Nat) (mid:List Value) (hm:∀ j v,mid[j]? =some v→cs[o+j]? =some v):W.rangeAt g o mid:=fun j v hj=>h.cell (hm j v hj)
end Go.Proofs.YtcbmedfongiojaaGreatDoor
