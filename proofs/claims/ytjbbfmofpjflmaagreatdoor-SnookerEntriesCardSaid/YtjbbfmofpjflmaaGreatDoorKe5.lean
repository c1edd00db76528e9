/- Parts of a proof. -/
import Derived.Test.YtjbbfmofpjflmaaGreatDoorKb35
import Derived.Test.YtjbbfmofpjflmaaGreatDoorKe3
import Derived.Test.YtjbbfmofpjflmaaGreatDoorKe4
set_option linter.unusedVariables false
set_option linter.unusedSimpArgs false
namespace Go.Proofs.YtjbbfmofpjflmaaGreatDoor
open Go.RowKit
section
variable {w W W':World} {L:List (Nat × List Value × TypeId)} {B e size k g:Nat} {v:Value} {xs:List Value} {cs:List Value} {t:TypeId}
theorem Bx.grow {row:Option Nat} (h:Bx w W L) (hg:W.grownBy W' row) (hr:∀ b,row=some b→w.heap.size≤b) (hL:∀ p∈L,row≠some p.1):Bx w W' L:=
 ⟨h.bw.grown hg h.bw.size hr,fun p hp=>⟨(h.bx p hp).1,(h.bx p hp).2.blk (hg.block p.1 (h.bx p hp).2.lt (fun e=>hL p hp e.symm))⟩,h.nd⟩
theorem own_ne (h:W.ownsRow B e size v k xs) (hh:Held W g cs t) (ht:t≠e):v.ownBlock≠some g:=by
 intro hv;obtain ⟨_,⟨rfl,_⟩ | ⟨g',cap,cur,rfl,_,h4,_⟩⟩:=h
 · cases hv
 · cases hv
   have hh:W.heap[g']? =some (.cells cs.toArray t (0,0)):=hh;rw [hh] at h4
   injection h4 with h4
   injection h4 with _ h2
   exact ht h2
end
section
variable {w W W':World} {L L':List (Nat × List Value × TypeId)} {B e size k:Nat} {v:Value} {xs:List Value}
theorem Bx.ah9 (h:Bx w W L) (hO:W.ownsRow w.heap.size e size v k xs) (hg:W.grownBy W' v.ownBlock) (hT:L.all (fun p=>p.2.2 != e)=true):Bx w W' L:=
 h.grow hg (fun _ hb=>(hO.lt _ hb).1) (fun p hp=>own_ne hO (h.bx p hp).2 (by simpa using List.all_eq_true.1 hT p hp))
end
theorem Bx.ah0 {w W W':World} {L:List (Nat × List Value × TypeId)} {D e size k:Nat} {v:Value} {xs:List Value} (h:Bx w W L) (hO:W.ownsRow D e size v k xs) (hD:w.heap.size≤D) (hg:W.grownBy W' v.ownBlock) (hT:∀ p∈L,p.1<D∨p.2.2≠e):Bx w W' L:=
 h.grow hg (fun _ hb=>Nat.le_trans hD (hO.lt _ hb).1) (fun p hp e=>by
  rcases hT p hp with h1 | h1
  · have:=(hO.lt _ e).1;omega
  · exact own_ne hO (h.bx p hp).2 h1 e)
end Go.Proofs.YtjbbfmofpjflmaaGreatDoor
