/- Parts of a proof. -/
import Derived.Test.YtjbbfmofpjflmaaGreatDoorKr13
set_option linter.unusedVariables false
set_option linter.unusedSimpArgs false
namespace Go.Proofs.YtjbbfmofpjflmaaGreatDoor
namespace Sk
theorem acy {g:Game} {s:State} {x:Entry} (h:legal g s x=0):step g s x=next g s x:=by unfold step;rw [if_pos h]
theorem acP {g:Game} {s:State} {x:Entry} (h:¬ legal g s x=0):step g s x=s:=by unfold step;rw [if_neg h]
end Sk
end Go.Proofs.YtjbbfmofpjflmaaGreatDoor
