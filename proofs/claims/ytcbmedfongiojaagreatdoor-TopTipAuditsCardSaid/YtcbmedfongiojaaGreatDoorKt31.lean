/- Parts of a proof. -/
import Derived.ChangeKeysEq
import Derived.Lib.SplitLaws
import Derived.Test.YtcbmedfongiojaaGreatDoorKt13
import Derived.Test.YtcbmedfongiojaaGreatDoorKt19
set_option linter.unusedVariables false
set_option linter.unusedSimpArgs false
namespace Go.Proofs.YtcbmedfongiojaaGreatDoor
open Go.RowKit
structure StE where
 s:M.State
 a:Option Addr
 c:Nat
theorem Reads.sets {S:Nat→Prop} {size n:Nat} {A:Option Addr} {c:Nat} {xs:List Value} {g:Nat} (hg:¬ S g):∀ (vs:List Value) (o:Nat) (W:World),Reads W S size A n c xs→Reads (W.setCells g o vs) S size A n c xs
 | [],_,_,h=>h
 | v::r,o,W,h=>Reads.sets hg r (o+1) _ (h.setCell (p:=⟨g,o,none⟩) hg v)
theorem kX.zero (W:World):kX W (fun _=>True) none 0 M.zero.dX:=Reads.none_ _ _ _
section
variable {W:World}
end
section
variable {e:TypeId} {D:Nat} {Z:Nat→Prop} {L:List StE} {A:Option Addr} {c:Nat} {W W':World}
end
end Go.Proofs.YtcbmedfongiojaaGreatDoor
