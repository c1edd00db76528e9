/- Parts of a proof. -/
import Derived.Test.YtjbbfmofpjflmaaGreatDoorKb35
import Derived.Test.YtjbbfmofpjflmaaGreatDoorKl2
import Derived.Test.YtjbbfmofpjflmaaGreatDoorKl3
set_option linter.unusedVariables false
set_option linter.unusedSimpArgs false
namespace Go.Proofs.YtjbbfmofpjflmaaGreatDoor
open Go.RowKit
section
variable {w W W':World} {L:List (Nat × List Value × TypeId)} {B e size k g:Nat} {v:Value} {xs:List Value} {cs:List Value} {t:TypeId}
theorem Bx.grow {row:Option Nat} (h:Bx w W L) (hg:W.grownBy W' row) (hr:∀ b,row=some b→w.heap.size≤b) (hL:∀ p∈L,row≠some p.1):Bx w W' L:=
 ⟨h.bw.grown hg h.bw.size hr,fun p hp=>⟨(h.bx p hp).1,(h.bx p hp).2.blk (hg.block p.1 (h.bx p hp).2.lt (fun e=>hL p hp e.symm))⟩,h.nd⟩
theorem own_ne (h:W.ownsRow B e size v k xs) (hh:Held W g cs t) (ht:t≠e):v.ownBlock≠some g:=by
 intro hv;obtain ⟨_,⟨rfl,_⟩ | ⟨g',cap,cur,rfl,_,h4,_⟩⟩:=h
 · cases hv
 · cases hv
   have hh:W.heap[g']? =some (.cells cs.toArray t (0,0)):=hh;rw [hh] at h4
   injection h4 with h4
   injection h4 with _ h2
   exact ht h2
theorem afi (h:W.ownsRow B e size v k xs) (hn:v.ownBlock≠some g) (vs:List Value) (o:Nat):(W.setCells g o vs).ownsRow B e size v k xs:=
 h.kept (row:=some g) (by
  have hb:=below_setCells (B:=0) g (Nat.zero_le _) vs o W W (Below.refl _ _)
  exact ⟨hb.os,hb.tape,hb.output,hb.size,fun b _ hne=>Held.nH (fun e=>hne (by rw [e])) vs o W⟩) (.inr hn)
end
section
variable {w W W':World} {L L':List (Nat × List Value × TypeId)} {B e size k:Nat} {v:Value} {xs:List Value}
theorem Bx.ahu (h:Bx w W L) (hO:W.ownsRow w.heap.size e size v k xs) (hg:W.grownBy W' v.ownBlock) (hT:L.all (fun p=>p.2.2 != e)=true):Bx w W' L:=
 h.grow hg (fun _ hb=>(hO.lt _ hb).1) (fun p hp=>own_ne hO (h.bx p hp).2 (by simpa using List.all_eq_true.1 hT p hp))
end
end Go.Proofs.YtjbbfmofpjflmaaGreatDoor
