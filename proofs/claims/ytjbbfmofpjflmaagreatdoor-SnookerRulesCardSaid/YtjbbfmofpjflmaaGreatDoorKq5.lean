/- Parts of a proof. -/
import Derived.Test.YtjbbfmofpjflmaaGreatDoorKq4
import Derived.Test.YtjbbfmofpjflmaaGreatDoorKr33
set_option linter.unusedVariables false
set_option linter.unusedSimpArgs false
namespace Go.Proofs.YtjbbfmofpjflmaaGreatDoor
open Go.RowKit
section
variable {w W W':World} {L:List (Nat × List Value × TypeId)} {B e size k g:Nat} {v:Value} {xs:List Value} {cs:List Value} {t:TypeId}
end
section
variable {w W W':World} {L L':List (Nat × List Value × TypeId)} {B e size k:Nat} {v:Value} {xs:List Value}
end
theorem ajg {g:Sk.Game} {s:Sk.State} {e:Sk.Entry} (h:Sk.Ok g s) (he:Sk.dH g e=0):pq g s e=0:=by
 unfold pq;rw [Sk.kG.2 h,he];rfl
theorem afP {g:Sk.Game} {s:Sk.State} {e:Sk.Entry} (h:Sk.Ok g s) (he:Sk.dH g e=0) (hl:Sk.legal g s e=0) (hk:e.kind=Sk.cO):Jp g s e=0∧Vl g s e=Sk.judge g s e:=by
 have h1:P7 g s e=0:=by unfold P7;rw [xB,ajg h he];simp [hk,jg]
 have h2:Jp g s e=0:=by unfold Jp;rw [h1];simp [hl]
 exact ⟨h2,by unfold Vl;rw [if_pos h2]⟩
end Go.Proofs.YtjbbfmofpjflmaaGreatDoor
