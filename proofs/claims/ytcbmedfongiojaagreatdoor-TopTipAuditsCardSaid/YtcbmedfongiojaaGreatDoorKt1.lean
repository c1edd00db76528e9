/- Parts of a proof. -/
import Derived.Below
import Derived.Deep.AppendLies
import Derived.Deep.Draws
import Derived.Laws.OwnMore
import Derived.Laws.Rows
import Derived.LoopTactic
import Derived.Outline
import Derived.OwnWalk
import Derived.Test.YtcbmedfongiojaaGreatDoorProg
import Derived.WalkKit
import Derived.WalkLawsBesides
import Derived.Test.YtcbmedfongiojaaGreatDoorKt0
set_option linter.unusedVariables false
set_option linter.unusedSimpArgs false
namespace Go.Proofs.YtcbmedfongiojaaGreatDoor
open Go.RowKit
theorem ga {α:Type} {l:List α} {i:Nat} {a:α} (h:l[i]? =some a):l.toArray[i]? =some a:=by rw [List.getElem?_toArray];exact h
theorem la {α:Type} {l:List α} {i:Nat} {a:α}:l.toArray.setIfInBounds i a=(l.set i a).toArray:=List.setIfInBounds_toArray l i a
theorem lz {α:Type} {a b:α} {l:List α}:(a::l).set 0 b=b::l:=rfl
theorem ls {α:Type} {a b:α} {l:List α} {n:Nat}:(a::l).set (n+1) b=a::l.set n b:=rfl
theorem qB (b o n:Nat):(Addr.mk b o none).add n=⟨b,o+n,none⟩:=by
 unfold Addr.add;split
 · next h=>subst h;rfl
 · rfl
def Reads (w:World) (S:Nat→Prop) (size:Nat) (A:Option Addr) (n c:Nat) (xs:List Value):Prop:=
 n≤c∧c≤9223372036854775807∧n≤17592186044416∧xs.length=n*size∧(0<n→∃ b o,A=some ⟨b,o,none⟩∧S b∧b<w.heap.size∧∀ j u,xs[j]? =some u→w.cell? ⟨b,o+j,none⟩=some u)
section
variable {w w':World} {S S':Nat→Prop} {size n c:Nat} {A:Option Addr} {xs:List Value}
theorem Reads.none_ (w:World) (S:Nat→Prop) (size:Nat):Reads w S size none 0 0 []:=⟨by omega,by omega,by omega,by simp,fun h=>absurd h (by omega)⟩
theorem Reads.bd (h:Reads w S size A n c xs):n≤c∧c≤9223372036854775807∧n≤17592186044416:=⟨h.1,h.2.1,h.2.2.1⟩
theorem Reads.len (h:Reads w S size A n c xs):xs.length=n*size:=h.2.2.2.1
theorem Reads.at_ (h:Reads w S size A n c xs) (hn:0<n):∃ b o,A=some ⟨b,o,none⟩∧S b∧b<w.heap.size∧∀ j u,xs[j]? =some u→w.cell? ⟨b,o+j,none⟩=some u:=h.2.2.2.2 hn
theorem Reads.keep (h:Reads w S size A n c xs) (hs:w.heap.size≤w'.heap.size) (hk:∀ b o,S b→b<w.heap.size→w'.cell? ⟨b,o,none⟩=w.cell? ⟨b,o,none⟩):Reads w' S size A n c xs:=
 ⟨h.1,h.2.1,h.2.2.1,h.2.2.2.1,fun hn=>by
  obtain ⟨b,o,e,hS,hb,hc⟩:=h.at_ hn
  exact ⟨b,o,e,hS,by omega,fun j u hu=>(hk _ _ hS hb).trans (hc j u hu)⟩⟩
theorem Reads.more (h:Reads w S size A n c xs) (hS:∀ b,b<w.heap.size→S b→S' b):Reads w S' size A n c xs:=
 ⟨h.1,h.2.1,h.2.2.1,h.2.2.2.1,fun hn=>by
  obtain ⟨b,o,e,h1,hb,hc⟩:=h.at_ hn
  exact ⟨b,o,e,hS b hb h1,hb,hc⟩⟩
theorem Reads.below (h:Reads w S size A n c xs) (hb:Below w.heap.size w w'):Reads w' S size A n c xs:=h.keep hb.size fun _ _ _ hp=>hb.cell (p:=⟨_,_,none⟩) hp
theorem Reads.drew (h:Reads w S size A n c xs):Reads w.drew S size A n c xs:=h
theorem Reads.drewN (h:Reads w S size A n c xs) (k:Nat):Reads (w.drewN k) S size A n c xs:=h
theorem Reads.alloc (h:Reads w S size A n c xs) (o:Obj):Reads (w.alloc o) S size A n c xs:=h.keep (by simp) fun _ _ _ hp=>World.cell?_alloc_lt w o ⟨_,_,none⟩ hp
theorem Reads.setCell (h:Reads w S size A n c xs) {p:Addr} (hp:¬ S p.block) (u:Value):Reads (w.setCell p u) S size A n c xs:=
 h.keep (by simp [World.setCell]) fun b o hS _=>World.cell?_setCell_other w p ⟨b,o,none⟩ u (fun e=>hp (by subst e;exact hS))
theorem Reads.grown (h:Reads w S size A n c xs) {row:Option Nat} (hg:w.grownBy w' row) (hr:∀ g,row=some g→¬ S g):Reads w' S size A n c xs:=
 h.keep hg.size fun b _ hS hb=>World.cell?_of_block (hg.block b hb (fun e=>hr _ e.symm hS))
theorem Reads.Jd {base e:Nat} (h:w.ownsRow base e size (.slice A n c) n xs) (hS:∀ g,base≤g→S g) (hn:n≤17592186044416):Reads w S size A n c xs:=by
 rcases h.2 with ⟨hv,h0⟩ | ⟨g,cap,cur,hv,hb,hh,h1,h2,h3,h4⟩
 · injection hv with h5 h6 h7
   subst h5;subst h7;subst h0
   have:xs=[]:=List.eq_nil_of_length_eq_zero (by simpa using h.1)
   subst this;exact Reads.none_ w S size
 · injection hv with h5 _ h6
   subst h5;subst h6
   have hlt:g<w.heap.size:=by
    rcases Nat.lt_or_ge g w.heap.size with hlt | hge
    · exact hlt
    · rw [Array.getElem?_eq_none hge] at hh;cases hh
   refine ⟨h1,h2,hn,h.1,fun _=>⟨g,0,rfl,hS g hb,hlt,fun j u hu=>?_⟩⟩
   have:=h.cells (g:=g) rfl j u hu
   rwa [qB] at this
theorem Reads.take {k:Nat} (h:Reads w S size A n c xs) (hk:k≤n):Reads w S size A k c (xs.take (k*size)):=by
 have hl:=h.len;have hmul:k*size≤n*size:=Nat.mul_le_mul_right _ hk;obtain ⟨b1,b2,b3⟩:=h.bd;refine ⟨by omega,b2,by omega,by rw [List.length_take];omega,fun h0=>?_⟩;obtain ⟨b,o,e,hS,hb,hc⟩:=h.at_ (by omega);refine ⟨b,o,e,hS,hb,fun j u hu=>hc j u ?_⟩;rw [List.getElem?_take] at hu
 split at hu
 · exact hu
 · cases hu
end
def kX (w:World) (S:Nat→Prop) (A:Option Addr) (c:Nat) (zs:List Int):Prop:=Reads w S 1 A zs.length c (zs.map (Value.int .i64))
theorem kX.at_ {w:World} {S:Nat→Prop} {A:Option Addr} {c:Nat} {zs:List Int} (h:kX w S A c zs) (k:Nat) (hk:k<zs.length):
 ∃ b o,A=some ⟨b,o,none⟩∧S b∧b<w.heap.size∧∀ j (_:j<zs.length),w.cell? ⟨b,o+j,none⟩=some (.int .i64 zs[j]):=by
 obtain ⟨b,o,e,h1,h2,h3⟩:=Reads.at_ h (by omega);refine ⟨b,o,e,h1,h2,fun j hj=>h3 j _ ?_⟩;rw [List.getElem?_map,List.getElem?_eq_getElem hj]
 rfl
theorem kX.bd {w:World} {S:Nat→Prop} {A:Option Addr} {c:Nat} {zs:List Int} (h:kX w S A c zs):zs.length≤c∧c≤9223372036854775807∧zs.length≤17592186044416:=Reads.bd h
def gY (l:List M.Dt):List Value:=l.flatMap fun p=>[.int .i64 p.bC,.int .i64 p.kC]
theorem nP (l:List M.Dt):(gY l).length=l.length*2:=by
 induction l with
 | nil=>rfl
 | cons p l ih=>simp [gY] at ih ⊢;omega
theorem rC (a b:List M.Dt):gY (a++b)=gY a++gY b:=by simp [gY]
theorem vV (l:List M.Dt) (k:Nat) (hk:k<l.length):(gY l)[k*2]? =some (.int .i64 l[k].bC)∧(gY l)[k*2+1]? =some (.int .i64 l[k].kC):=by
 have h:gY l=gY (l.take k)++([.int .i64 l[k].bC,.int .i64 l[k].kC]++gY (l.drop (k+1))):=by
  conv=>lhs;rw [← List.take_append_drop k l,List.drop_eq_getElem_cons hk]
  rw [rC];rfl
 have hl:(gY (l.take k)).length=k*2:=by rw [nP,List.length_take];omega
 constructor
 · rw [h,List.getElem?_append_right (by omega),hl];simp
 · rw [h,List.getElem?_append_right (by omega),hl];simp
theorem BL (l:List M.Dt) (k:Nat):gY (l.take k)=(gY l).take (k*2):=by
 rcases Nat.lt_or_ge k l.length with h | h
 · have hl:(gY (l.take k)).length=k*2:=by rw [nP,List.length_take];omega
   have e:gY l=gY (l.take k)++gY (l.drop k):=by rw [← rC,List.take_append_drop]
   rw [e,List.take_append_of_le_length (by omega)];exact (List.take_of_length_le (by omega)).symm
 · rw [List.take_of_length_le h,List.take_of_length_le (by rw [nP];omega)]
def oG (w:World) (S:Nat→Prop) (A:Option Addr) (c:Nat) (l:List M.Dt):Prop:=Reads w S 2 A l.length c (gY l)
theorem oG.at_ {w:World} {S:Nat→Prop} {A:Option Addr} {c:Nat} {l:List M.Dt} (h:oG w S A c l) (k:Nat) (hk:k<l.length):
 ∃ b o,A=some ⟨b,o,none⟩∧S b∧b<w.heap.size∧∀ j (_:j<l.length),w.cell? ⟨b,o+j*2,none⟩=some (.int .i64 l[j].bC)∧w.cell? ⟨b,o+j*2+1,none⟩=some (.int .i64 l[j].kC):=by
 obtain ⟨b,o,e,h1,h2,h3⟩:=Reads.at_ h (by omega);exact ⟨b,o,e,h1,h2,fun j hj=>⟨h3 _ _ (vV l j hj).1,h3 _ _ (vV l j hj).2⟩⟩
theorem oG.bd {w:World} {S:Nat→Prop} {A:Option Addr} {c:Nat} {l:List M.Dt} (h:oG w S A c l):l.length≤c∧c≤9223372036854775807∧l.length≤17592186044416:=Reads.bd h
theorem oG.take {w:World} {S:Nat→Prop} {A:Option Addr} {c:Nat} {l:List M.Dt} (h:oG w S A c l) (k:Nat) (hk:k≤l.length):oG w S A c (l.take k):=by
 have:=Reads.take (k:=k) h hk
 unfold oG
 rw [BL,List.length_take,Nat.min_eq_left hk];exact this
theorem jU (W:World) (t:TypeId) (us:List Value) (g:Nat) (hg:W.heap.size=g):∀ j v,us[j]? =some v→(W.alloc (.cells us.toArray t)).cell? ((⟨g,0,none⟩:Addr).add j)=some v:=by
 intro j v hj;subst hg;rw [qB,Nat.zero_add,cell_of_row _ _ _ _ _ _ (heap_alloc_new W _)]
 simpa using hj
theorem Cb {B base e size n:Nat} {W W':World} {v:Value} {xs:List Value} (hown:W.ownsRow base e size v n xs) (hg:W.grownBy W' v.ownBlock) (hB:B≤base) (hs:B≤W.heap.size):Below B W W':=
 (Below.refl _ _).grown hg hs fun k hk=>Nat.le_trans hB (hown.lt k hk).1
theorem sK {a b:ByteArray} (h:a.toList=b.toList):a=b:=by
 rw [ByteArray.toList_eq,ByteArray.toList_eq] at h
 cases a;cases b
 congr
 exact Array.ext' h
theorem zu {a b:ByteArray} (h:¬ a=b):(a == b)=false:=by
 rw [beq_toListBytes];exact beq_eq_false_iff_ne.2 (fun e=>h (sK e))
theorem aI {a b:Bool} (h:a=b):Ending.returned (.bool a)= .returned (.bool b):=by rw [h]
theorem bG {k:IntKind} {a b:Int} (h:a=b):Ending.returned (.int k a)= .returned (.int k b):=by rw [h]
theorem hide {p:Prop} (h:p):Hid p:=h
end Go.Proofs.YtcbmedfongiojaaGreatDoor
