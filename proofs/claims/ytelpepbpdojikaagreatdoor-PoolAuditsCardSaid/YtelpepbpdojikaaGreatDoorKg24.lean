/- Parts of the proofs about chapter 5 (pool), joined by program. -/
import Derived.ChangeKeysEq
import Derived.Test.YtelpepbpdojikaaGreatDoorKg23
set_option linter.unusedVariables false
set_option linter.unusedSimpArgs false
namespace Go.Proofs.YtelpepbpdojikaaGreatDoor
open Go.RowKit
structure jR (e:TypeId) (D:Nat) (l:List Sh) (A:Option Addr) (c:Nat) (W:World):Prop where
 own:W.ownsRow D e 7 (.slice A l.length c) l.length (bI l)
 each:∀ x∈l,jl W (fun b=>D≤b∧(Value.slice A l.length c).ownBlock≠some b) x.a x.c x.x.aA
theorem jR.nil (e:TypeId) (D:Nat) (W:World):jR e D [] none 0 W:=⟨World.ownsRow_nil _ _ _ _,fun x hx=>by cases hx⟩
theorem jR.below {e:TypeId} {D:Nat} {l:List Sh} {A:Option Addr} {c:Nat} {W W':World} (h:jR e D l A c W) (hb:Below W.heap.size W W'):jR e D l A c W':=
 ⟨bT h.own (fun g hg=>hb.block g (Array.getElem?_eq_some_iff.1 (bg h.own hg).2.choose_spec.1).1),fun x hx=>Reads.below (h.each x hx) hb⟩
theorem jR.read {e:TypeId} {D:Nat} {l:List Sh} {A:Option Addr} {c:Nat} {W:World} (h:jR e D l A c W) (hn:l.length≤17592186044416):wG W (fun b=>D≤b) A c l:=
 ⟨Reads.kG h.own (fun g hg=>hg) hn,fun x hx=>Reads.more (h.each x hx) (fun b _ h=>h.1)⟩
theorem jR.append {e:TypeId} {D:Nat} {l:List Sh} {A:Option Addr} {c g1 cap:Nat} {W0 W w4:World} {o:Obj} {x:Sh} (h:jR e D l A c W0) (hb:Below W0.heap.size W0 W) (hD:D≤W0.heap.size) (hx:jl W (fun b=>W0.heap.size≤b) x.a x.c x.x.aA)
 (hgrow:(W.alloc o).grownBy w4 (Value.slice A l.length c).ownBlock) (hown4:w4.ownsRow D e 7 (.slice (some ⟨g1,0,none⟩) (l.length+1) cap) (l.length+1) (bI l++au x)) (hat:(Value.slice A l.length c).ownBlock=some g1∨g1=W.heap.size+1):
 jR e D (l++[x]) (some ⟨g1,0,none⟩) cap w4:=by
 have hlt:∀ g,(Value.slice A l.length c).ownBlock=some g→g<W0.heap.size:=fun g hg=>(Array.getElem?_eq_some_iff.1 (bg h.own hg).2.choose_spec.1).1
 have hs:=hb.size
 have key:∀ y:Sh,jl W (fun b=>D≤b∧(Value.slice A l.length c).ownBlock≠some b) y.a y.c y.x.aA→jl w4 (fun b=>D≤b∧(some g1:Option Nat)≠some b) y.a y.c y.x.aA:=fun y hy=>by
  have h1:=Reads.more hy (S':=fun b=>(D≤b∧(Value.slice A l.length c).ownBlock≠some b)∧b<W.heap.size) (fun b hb h=>⟨h,hb⟩)
  have h2:=Reads.keep h1 (by have:=hgrow.size;simp at this;omega) (w':=w4) (fun b o hb hlt=>(hgrow.cell_far ⟨b,o,none⟩ (by simp;omega) (fun e=>hb.1.2 e.symm)).trans (World.cell?_alloc_lt _ _ ⟨b,o,none⟩ hlt))
  refine Reads.more h2 (fun b _ hb=>⟨hb.1.1,fun e=>?_⟩)
  cases e
  rcases hat with h3 | h3
  · exact hb.1.2 h3
  · have:=hb.2;omega
 have hl:(l++[x]).length=l.length+1:=by simp
 refine ⟨?_,fun y hy=>?_⟩
 · rw [hl,nI]
   have:bI [x]=au x:=by simp [bI]
   rw [this]
   exact hown4
 · rw [hl]
   rcases List.mem_append.1 hy with hy | hy
   · exact key y (Reads.below (h.each y hy) hb)
   · obtain rfl:=List.mem_singleton.1 hy
     exact key _ (Reads.more hx (fun b _ hb=>⟨Nat.le_trans hD hb,fun e=>by have:=hlt b e;have hb:W0.heap.size≤b:=hb;omega⟩))
end Go.Proofs.YtelpepbpdojikaaGreatDoor
