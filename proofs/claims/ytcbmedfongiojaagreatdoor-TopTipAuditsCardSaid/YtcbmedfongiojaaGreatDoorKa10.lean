/- Parts of a proof. -/
import Derived.Test.YtcbmedfongiojaaGreatDoorKa3
import Derived.Test.YtcbmedfongiojaaGreatDoorKa4
set_option linter.unusedVariables false
set_option linter.unusedSimpArgs false
namespace Go.Proofs.YtcbmedfongiojaaGreatDoor
open Go.RowKit Go.ChangeShapes Go.WideShapes
theorem wF.put {w:World} {S:Nat→Prop} {A:Option Addr} {c:Nat} {l:List En} (h:wF w S A c l) (g:Nat) (hS:∀ b,S b→b≠g) (vs:List Value) (o:Nat):wF (w.setCells g o vs) S A c l:=
 h.keep (by rw [setCells_size];exact Nat.le_refl _) fun b _ hb _=>World.cell?_of_block (Held.zq (hS b hb) vs o w)
section
variable {H:Type} {enc:TypeId × Value→H} {W:World} {b0:Nat} {v:Value} {d:DataW H} {ps:List MemPlace}
end
end Go.Proofs.YtcbmedfongiojaaGreatDoor
