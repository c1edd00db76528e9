/- Parts of a proof. -/
import Derived.Test.YtjbbfmofpjflmaaGreatDoorKb2
set_option linter.unusedVariables false
set_option linter.unusedSimpArgs false
namespace Go.Proofs.YtjbbfmofpjflmaaGreatDoor
open Go.RowKit
section
variable {w B W W':World} {nb:Nat}
theorem abA {base e size n:Nat} {v:Value} {xs:List Value} (h:W.ownsRow base e size v n xs) (hb:Below W.heap.size W W'):W'.ownsRow base e size v n xs:=
 World.ownsRow.kept (row:=none) h ⟨hb.os,hb.tape,hb.output,hb.size,fun i hi _=>hb.block i hi⟩ (by
  rcases hv:v.ownBlock with _ | k
  · exact .inl rfl
  · exact .inr (by simp))
end
end Go.Proofs.YtjbbfmofpjflmaaGreatDoor
