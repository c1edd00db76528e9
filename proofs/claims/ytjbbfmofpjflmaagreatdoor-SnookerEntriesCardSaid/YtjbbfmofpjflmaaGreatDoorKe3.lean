/- Parts of a proof. -/
import Derived.Test.YtjbbfmofpjflmaaGreatDoorKb19
import Derived.Test.YtjbbfmofpjflmaaGreatDoorKe1
set_option linter.unusedVariables false
set_option linter.unusedSimpArgs false
namespace Go.Proofs.YtjbbfmofpjflmaaGreatDoor
open Go.RowKit
section
variable {w W W':World} {L:List (Nat × List Value × TypeId)} {g:Nat} {cs:List Value} {t:TypeId}
theorem Bx.rn (h:Bx w W L) (i o:Nat) (vs:List Value) (he:L[i]? =some (g,cs,t):=by rfl) (hv:(cs.drop o).take vs.length=vs:=by rfl):W.rangeAt g o vs:=h.rng i he o vs hv
end
section
variable {w W W':World} {L:List (Nat × List Value × TypeId)} {g D:Nat} {cs:List Value} {t:TypeId}
end
end Go.Proofs.YtjbbfmofpjflmaaGreatDoor
