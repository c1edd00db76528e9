/- Parts of a proof. -/
import Derived.WalkMore
import Derived.Test.YtcbmedfongiojaaGreatDoorKt3
import Derived.Test.YtcbmedfongiojaaGreatDoorKt31
set_option linter.unusedVariables false
set_option linter.unusedSimpArgs false
namespace Go.Proofs.YtcbmedfongiojaaGreatDoor
open Go.RowKit
theorem Reads.alR (W:World) (t:TypeId) (n size:Nat) (cs:List Value) (hl:cs.length=n*size) (hn:n≤1000) (S:Nat→Prop) (hS:S W.heap.size):Reads (W.alloc (.cells cs.toArray t)) S size (some ⟨W.heap.size,0,none⟩) n n cs:=
 ⟨Nat.le_refl _,by omega,by omega,hl,fun _=>⟨W.heap.size,0,rfl,hS,by simp,fun j u hu=>by
  have:=jU W t cs W.heap.size rfl j u hu
  rwa [qB] at this⟩⟩
section
variable {r:M.Rules} {ls:List M.oH} {l:List Sh} {n:Nat} {A:Option Addr} {c:Nat} {S:Nat→Prop} {W:World}
end
section
variable {w W W':World} {D:Nat} {v:Value}
end
structure Apart (D0 D:Nat) (W W':World):Prop where
 lo:D0≤W.heap.size
 below:Below D0 W W'
 above:∀ b,D≤b→b<W.heap.size→W'.heap[b]? =W.heap[b]?
section
variable {D0 D:Nat} {W W1 W2 w:World} {v:Value}
theorem Apart.start (h:D0≤W.heap.size):Apart D0 D W W.drew:=⟨h,(Below.refl _ _).drew,fun _ _ _=>rfl⟩
theorem Apart.size (h:Apart D0 D W W1):W.heap.size≤W1.heap.size:=h.below.size
theorem Apart.call (h:Apart D0 D W W1) (hb:Below W1.heap.size W1 W2):Apart D0 D W W2:=
 ⟨h.lo,h.below.trans (hb.mono (Nat.le_trans h.lo h.size)),fun b hD hl=>(hb.block b (Nat.lt_of_lt_of_le hl h.size)).trans (h.above b hD hl)⟩
theorem Apart.alloc (h:Apart D0 D W W1) (o:Obj):Apart D0 D W (W1.alloc o):=h.call ((Below.refl _ _).alloc (Nat.le_refl _) o)
theorem Apart.grown {row:Option Nat} (h:Apart D0 D W W1) (hg:W1.grownBy W2 row) (hr:∀ g,row=some g→D0≤g∧g<D):Apart D0 D W W2:=
 ⟨h.lo,h.below.trans ⟨hg.os,hg.tape,hg.output,hg.size,fun k hk=>hg.block k (Nat.lt_of_lt_of_le hk (Nat.le_trans h.lo h.size)) (fun e=>by have:=(hr k e.symm).1;omega)⟩,
  fun b hD hl=>(hg.block b (Nat.lt_of_lt_of_le hl h.size) (fun e=>by have:=(hr b e.symm).2;omega)).trans (h.above b hD hl)⟩
theorem Apart.sets (h:Apart D0 D W W1) {g:Nat} (hg:W.heap.size≤g) (vs:List Value) (o:Nat):Apart D0 D W (W1.setCells g o vs):=
 ⟨h.lo,below_setCells g (Nat.le_trans h.lo hg) vs o _ _ h.below,fun b hD hl=>(Held.zq (by omega) _ _ _).trans (h.above b hD hl)⟩
theorem Reads.apart {size n c:Nat} {A:Option Addr} {xs:List Value} (h:Reads W (fun b=>D≤b) size A n c xs) (a:Apart D0 D W W1):Reads W1 (fun b=>D≤b) size A n c xs:=
 h.keep a.size fun b o hb hl=>World.cell?_of_block (a.above b hb hl)
end
theorem Reads.newAt (W:World) (t:TypeId) (n size g:Nat) (cs:List Value) (hl:cs.length=n*size) (hn:n≤1000) (S:Nat→Prop) (hS:S g) (hg:W.heap.size=g):Reads (W.alloc (.cells cs.toArray t)) S size (some ⟨g,0,none⟩) n n cs:=by
 subst hg;exact Reads.alR W t n size cs hl hn S hS
theorem Held.grown {W W':World} {g:Nat} {cs:List Value} {t:TypeId} {row:Option Nat} (h:Held W g cs t) (hg:W.grownBy W' row) (hne:row=some g→False):Held W' g cs t:=(hg.block g h.lt (fun e=>hne e.symm)).trans h
theorem Reads.over {W X:World} {S:Nat→Prop} {size n c g o:Nat} {A:Option Addr} {xs vs:List Value} (h:Reads W S size A n c xs) (hb:Below W.heap.size W X) (hg:∀ b,b<W.heap.size→S b→b≠g):Reads (X.setCells g o vs) S size A n c xs:=
 h.keep (by rw [setCells_size];exact hb.size) fun b i hs hl=>(kV _ _ _ _ (hg b hl hs)).trans (hb.cell (p:=⟨b,i,none⟩) hl)
theorem H7 (W:World) (s:ByteArray) (k:Nat):Below W.heap.size W (W.iter s k):=(Below.refl _ _).alloc (Nat.le_refl _) _
theorem yT {P:Program} {w:World} {g:Nat} {u:Value} {t ty:TypeId} {d:TypeDesc} (h:Held w g [u] t) (hu:P.underlying ty=some d) (hd:d.isRow=false):(loadVar ty ⟨g,0,none⟩).run P w= .ok u w:=by
 have hc:=h.cell (j:=0) rfl
 have hagg:(isAgg ty).run P w= .ok false w:=by
  unfold isAgg
  rw [Sem.run_bind,run_underlying hu w]
  cases d <;> simp_all [TypeDesc.isRow]
 simp [loadVar,Sem.run_bind,hagg,hc]
section
variable {r:M.Rules} {l:List Sh} {C:List (Int × Int)} {A1:Option Addr} {c1:Nat} {w:World} {D:Nat}
end
end Go.Proofs.YtcbmedfongiojaaGreatDoor
