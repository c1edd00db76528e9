/- Parts of a proof. -/
import Derived.Below
import Derived.Deep.AppendLies
import Derived.Deep.Draws
import Derived.Laws.OwnMore
import Derived.Laws.Rows
import Derived.LoopTactic
import Derived.Outline
import Derived.OwnWalk
import Derived.Test.YtcjglfbpjkdgiaaGreatDoorProg
import Derived.WalkKit
import Derived.WalkLawsBesides
import Derived.Test.YtcjglfbpjkdgiaaGreatDoorKk0
set_option maxHeartbeats 400000
set_option maxRecDepth 100000
set_option linter.unusedVariables false
set_option linter.unusedSimpArgs false
namespace Go.Proofs.YtcjglfbpjkdgiaaGreatDoor
open Go.RowKit
theorem ga {α:Type} {l:List α} {i:Nat} {a:α} (h:l[i]? =some a):l.toArray[i]? =some a:=by rw [List.getElem?_toArray];exact h
theorem la {α:Type} {l:List α} {i:Nat} {a:α}:l.toArray.setIfInBounds i a=(l.set i a).toArray:=List.setIfInBounds_toArray l i a
theorem lz {α:Type} {a b:α} {l:List α}:(a::l).set 0 b=b::l:=rfl
theorem ls {α:Type} {a b:α} {l:List α} {n:Nat}:(a::l).set (n+1) b=a::l.set n b:=rfl
theorem oC (b o n:Nat):(Addr.mk b o none).add n=⟨b,o+n,none⟩:=by
 unfold Addr.add;split
 · next h=>subst h;rfl
 · rfl
def Reads (w:World) (S:Nat→Prop) (size:Nat) (A:Option Addr) (n c:Nat) (xs:List Value):Prop:=
 n≤c∧c≤9223372036854775807∧n≤17592186044416∧xs.length=n*size∧(0<n→∃ b o,A=some ⟨b,o,none⟩∧S b∧b<w.heap.size∧∀ j u,xs[j]? =some u→w.cell? ⟨b,o+j,none⟩=some u)
section
variable {w w':World} {S S':Nat→Prop} {size n c:Nat} {A:Option Addr} {xs:List Value}
theorem Reads.none_ (w:World) (S:Nat→Prop) (size:Nat):Reads w S size none 0 0 []:=⟨by omega,by omega,by omega,by simp,fun h=>absurd h (by omega)⟩
theorem Reads.bd (h:Reads w S size A n c xs):n≤c∧c≤9223372036854775807∧n≤17592186044416:=⟨h.1,h.2.1,h.2.2.1⟩
theorem Reads.len (h:Reads w S size A n c xs):xs.length=n*size:=h.2.2.2.1
theorem Reads.at_ (h:Reads w S size A n c xs) (hn:0<n):∃ b o,A=some ⟨b,o,none⟩∧S b∧b<w.heap.size∧∀ j u,xs[j]? =some u→w.cell? ⟨b,o+j,none⟩=some u:=h.2.2.2.2 hn
theorem Reads.keep (h:Reads w S size A n c xs) (hs:w.heap.size≤w'.heap.size) (hk:∀ b o,S b→b<w.heap.size→w'.cell? ⟨b,o,none⟩=w.cell? ⟨b,o,none⟩):Reads w' S size A n c xs:=
 ⟨h.1,h.2.1,h.2.2.1,h.2.2.2.1,fun hn=>by
  obtain ⟨b,o,e,hS,hb,hc⟩:=h.at_ hn
  exact ⟨b,o,e,hS,by omega,fun j u hu=>(hk _ _ hS hb).trans (hc j u hu)⟩⟩
theorem Reads.more (h:Reads w S size A n c xs) (hS:∀ b,b<w.heap.size→S b→S' b):Reads w S' size A n c xs:=
 ⟨h.1,h.2.1,h.2.2.1,h.2.2.2.1,fun hn=>by
  obtain ⟨b,o,e,h1,hb,hc⟩:=h.at_ hn
  exact ⟨b,o,e,hS b hb h1,hb,hc⟩⟩
theorem Reads.below (h:Reads w S size A n c xs) (hb:Below w.heap.size w w'):Reads w' S size A n c xs:=h.keep hb.size fun _ _ _ hp=>hb.cell (p:=⟨_,_,none⟩) hp
theorem Reads.drew (h:Reads w S size A n c xs):Reads w.drew S size A n c xs:=h
theorem Reads.drewN (h:Reads w S size A n c xs) (k:Nat):Reads (w.drewN k) S size A n c xs:=h
theorem Reads.alloc (h:Reads w S size A n c xs) (o:Obj):Reads (w.alloc o) S size A n c xs:=h.keep (by simp) fun _ _ _ hp=>World.cell?_alloc_lt w o ⟨_,_,none⟩ hp
theorem Reads.setCell (h:Reads w S size A n c xs) {p:Addr} (hp:¬ S p.block) (u:Value):Reads (w.setCell p u) S size A n c xs:=
 h.keep (by simp [World.setCell]) fun b o hS _=>World.cell?_setCell_other w p ⟨b,o,none⟩ u (fun e=>hp (by subst e;exact hS))
theorem Reads.grown (h:Reads w S size A n c xs) {row:Option Nat} (hg:w.grownBy w' row) (hr:∀ g,row=some g→¬ S g):Reads w' S size A n c xs:=
 h.keep hg.size fun b _ hS hb=>World.cell?_of_block (hg.block b hb (fun e=>hr _ e.symm hS))
theorem Reads.je {base e:Nat} (h:w.ownsRow base e size (.slice A n c) n xs) (hS:∀ g,base≤g→S g) (hn:n≤17592186044416):Reads w S size A n c xs:=by
 rcases h.2 with ⟨hv,h0⟩ | ⟨g,cap,cur,hv,hb,hh,h1,h2,h3,h4⟩
 · injection hv with h5 h6 h7
   subst h5;subst h7;subst h0
   have:xs=[]:=List.eq_nil_of_length_eq_zero (by simpa using h.1)
   subst this;exact Reads.none_ w S size
 · injection hv with h5 _ h6
   subst h5;subst h6
   have hlt:g<w.heap.size:=by
    rcases Nat.lt_or_ge g w.heap.size with hlt | hge
    · exact hlt
    · rw [Array.getElem?_eq_none hge] at hh;cases hh
   refine ⟨h1,h2,hn,h.1,fun _=>⟨g,0,rfl,hS g hb,hlt,fun j u hu=>?_⟩⟩
   have:=h.cells (g:=g) rfl j u hu
   rwa [oC] at this
theorem Reads.take {k:Nat} (h:Reads w S size A n c xs) (hk:k≤n):Reads w S size A k c (xs.take (k*size)):=by
 have hl:=h.len;have hmul:k*size≤n*size:=Nat.mul_le_mul_right _ hk;obtain ⟨b1,b2,b3⟩:=h.bd;refine ⟨by omega,b2,by omega,by rw [List.length_take];omega,fun h0=>?_⟩;obtain ⟨b,o,e,hS,hb,hc⟩:=h.at_ (by omega);refine ⟨b,o,e,hS,hb,fun j u hu=>hc j u ?_⟩;rw [List.getElem?_take] at hu
 split at hu
 · exact hu
 · cases hu
end
theorem Y2 {W w1:World} (hb:Below W.heap.size W w1):(∀ b o,b<W.heap.size→w1.cell? ⟨b,o,none⟩=W.cell? ⟨b,o,none⟩)∧(∀ b o,b<W.heap.size→w1.frozen? ⟨b,o,none⟩=W.frozen? ⟨b,o,none⟩):=
 ⟨fun b o h=>hb.cell (p:=⟨b,o,none⟩) h,fun b o h=>hb.frozen (p:=⟨b,o,none⟩) h⟩
def bQ (w:World) (S:Nat→Prop) (A:Option Addr) (c:Nat) (zs:List Int):Prop:=Reads w S 1 A zs.length c (zs.map (Value.int .i64))
theorem bQ.at_ {w:World} {S:Nat→Prop} {A:Option Addr} {c:Nat} {zs:List Int} (h:bQ w S A c zs) (k:Nat) (hk:k<zs.length):
 ∃ b o,A=some ⟨b,o,none⟩∧S b∧b<w.heap.size∧∀ j (_:j<zs.length),w.cell? ⟨b,o+j,none⟩=some (.int .i64 zs[j]):=by
 obtain ⟨b,o,e,h1,h2,h3⟩:=Reads.at_ h (by omega);refine ⟨b,o,e,h1,h2,fun j hj=>h3 j _ ?_⟩;rw [List.getElem?_map,List.getElem?_eq_getElem hj]
 rfl
theorem bQ.bd {w:World} {S:Nat→Prop} {A:Option Addr} {c:Nat} {zs:List Int} (h:bQ w S A c zs):zs.length≤c∧c≤9223372036854775807∧zs.length≤17592186044416:=Reads.bd h
def bZ (l:List M.kL):List Value:=l.flatMap fun p=>[.int .i64 p.aT,.int .i64 p.aP]
theorem kR (l:List M.kL):(bZ l).length=l.length*2:=by
 induction l with
 | nil=>rfl
 | cons p l ih=>simp [bZ] at ih ⊢;omega
theorem pJ (a b:List M.kL):bZ (a++b)=bZ a++bZ b:=by simp [bZ]
theorem xY (l:List M.kL) (k:Nat) (hk:k<l.length):(bZ l)[k*2]? =some (.int .i64 l[k].aT)∧(bZ l)[k*2+1]? =some (.int .i64 l[k].aP):=by
 have h:bZ l=bZ (l.take k)++([.int .i64 l[k].aT,.int .i64 l[k].aP]++bZ (l.drop (k+1))):=by
  conv=>lhs;rw [← List.take_append_drop k l,List.drop_eq_getElem_cons hk]
  rw [pJ];rfl
 have hl:(bZ (l.take k)).length=k*2:=by rw [kR,List.length_take];omega
 constructor
 · rw [h,List.getElem?_append_right (by omega),hl];simp
 · rw [h,List.getElem?_append_right (by omega),hl];simp
theorem Eh (l:List M.kL) (k:Nat):bZ (l.take k)=(bZ l).take (k*2):=by
 rcases Nat.lt_or_ge k l.length with h | h
 · have hl:(bZ (l.take k)).length=k*2:=by rw [kR,List.length_take];omega
   have e:bZ l=bZ (l.take k)++bZ (l.drop k):=by rw [← pJ,List.take_append_drop]
   rw [e,List.take_append_of_le_length (by omega)];exact (List.take_of_length_le (by omega)).symm
 · rw [List.take_of_length_le h,List.take_of_length_le (by rw [kR];omega)]
def fP (w:World) (S:Nat→Prop) (A:Option Addr) (c:Nat) (l:List M.kL):Prop:=Reads w S 2 A l.length c (bZ l)
theorem fP.at_ {w:World} {S:Nat→Prop} {A:Option Addr} {c:Nat} {l:List M.kL} (h:fP w S A c l) (k:Nat) (hk:k<l.length):
 ∃ b o,A=some ⟨b,o,none⟩∧S b∧b<w.heap.size∧∀ j (_:j<l.length),w.cell? ⟨b,o+j*2,none⟩=some (.int .i64 l[j].aT)∧w.cell? ⟨b,o+j*2+1,none⟩=some (.int .i64 l[j].aP):=by
 obtain ⟨b,o,e,h1,h2,h3⟩:=Reads.at_ h (by omega);exact ⟨b,o,e,h1,h2,fun j hj=>⟨h3 _ _ (xY l j hj).1,h3 _ _ (xY l j hj).2⟩⟩
theorem fP.bd {w:World} {S:Nat→Prop} {A:Option Addr} {c:Nat} {l:List M.kL} (h:fP w S A c l):l.length≤c∧c≤9223372036854775807∧l.length≤17592186044416:=Reads.bd h
theorem fP.take {w:World} {S:Nat→Prop} {A:Option Addr} {c:Nat} {l:List M.kL} (h:fP w S A c l) (k:Nat) (hk:k≤l.length):fP w S A c (l.take k):=by
 have:=Reads.take (k:=k) h hk
 unfold fP
 rw [Eh,List.length_take,Nat.min_eq_left hk];exact this
@[reducible] def iJ (r:M.Rules):Value:= .agg #[.string r.game,.int .i64 r.target,.int .i64 r.bD]
@[reducible] def iy (x:M.aV) (A:Option Addr) (c:Nat):Value:= .agg #[.int .i64 x.aG,.string x.kind,.int .i64 x.aT,.int .i64 x.aP,.int .i64 x.first,.bool x.cO,.slice A x.aC.length c]
@[reducible] def oK (s:M.State) (A:Option Addr) (c:Nat):Value:= .agg #[.int .i64 s.turn,.bool s.brk,.bool s.hand,.bool s.push,.bool s.pushed,.int .i64 s.group,.slice A s.au.length c,.int .i64 s.s0,.int .i64 s.s1,.int .i64 s.f0,.int .i64 s.f1,.int .i64 s.run,.int .i64 s.bI,.bool s.over,.int .i64 s.bP]
@[reducible] def dX (r:M.Rules) (s:M.State) (A:Option Addr) (c:Nat):Value:= .agg #[.string r.game,.int .i64 r.target,.int .i64 r.bD,.int .i64 s.turn,.bool s.brk,.bool s.hand,.bool s.push,.bool s.pushed,.int .i64 s.group,.slice A s.au.length c,.int .i64 s.s0,.int .i64 s.s1,.int .i64 s.f0,.int .i64 s.f1,.int .i64 s.run,.int .i64 s.bI,.bool s.over,.int .i64 s.bP]
theorem xW (W:World) (t:TypeId) (u:Value):∀ j v,[u][j]? =some v→(W.alloc (.cells #[u] t)).cell? ((⟨W.heap.size,0,none⟩:Addr).add j)=some v:=by
 intro j v hj
 match j,hj with
 | 0,hj=>
   simp at hj;subst hj
   simp [Addr.add]
theorem dJ (W:World) (t:TypeId) (us:List Value) (g:Nat) (hg:W.heap.size=g):∀ j v,us[j]? =some v→(W.alloc (.cells us.toArray t)).cell? ((⟨g,0,none⟩:Addr).add j)=some v:=by
 intro j v hj;subst hg;rw [oC,Nat.zero_add,cell_of_row _ _ _ _ _ _ (heap_alloc_new W _)]
 simpa using hj
theorem eX {B base e size n:Nat} {W W':World} {v:Value} {xs:List Value} (hown:W.ownsRow base e size v n xs) (hg:W.grownBy W' v.ownBlock) (hB:B≤base) (hs:B≤W.heap.size):Below B W W':=
 (Below.refl _ _).grown hg hs fun k hk=>Nat.le_trans hB (hown.lt k hk).1
theorem kU {a b:ByteArray} (h:a.toList=b.toList):a=b:=by
 rw [ByteArray.toList_eq,ByteArray.toList_eq] at h
 cases a;cases b
 congr
 exact Array.ext' h
theorem rY {a b:ByteArray} (h:¬ a=b):(a == b)=false:=by
 rw [beq_toListBytes];exact beq_eq_false_iff_ne.2 (fun e=>h (kU e))
theorem dG {a:ByteArray} {l:List UInt8} (h:¬ a=⟨l.toArray⟩):¬ a.toList=l:=by
 intro e;exact h (kU (by rw [e,ByteArray.toList_eq]))
theorem dD {a b:Bool} (h:a=b):Ending.returned (.bool a)= .returned (.bool b):=by rw [h]
theorem dw {k:IntKind} {a b:Int} (h:a=b):Ending.returned (.int k a)= .returned (.int k b):=by rw [h]
theorem hide {p:Prop} (h:p):Hid p:=h
theorem qc (n a b:Int) (w:World):Calls Tryz.prog 23 #[.int .i64 n,.int .i64 a,.int .i64 b] w fun r w'=>r= .returned (.bool (M.out n a b))∧w=w':=by
 go_enter Tryz.func23,Tryz.ntmps23
 go_wp2
 all_goals
  go_ret;exact ⟨dD (by simp [M.out, *]),rfl⟩
theorem wI (k:ByteArray):k=M.dS∨k=M.oq∨k=M.Bg∨k=M.gI∨k=M.iW∨k=M.bC∨
 (k.toList≠[98,114,101,97,107]∧k.toList≠[112,108,97,121]∧k.toList≠[115,97,102,101,116,121]∧k.toList≠[112,117,115,104]∧k.toList≠[112,97,115,115]∧k.toList≠[99,111,110,99,101,100,101]∧M.isKind k=false):=by
 by_cases h0:k=M.dS
 · exact .inl h0
 by_cases h1:k=M.oq
 · exact .inr (.inl h1)
 by_cases h2:k=M.Bg
 · exact .inr (.inr (.inl h2))
 by_cases h3:k=M.gI
 · exact .inr (.inr (.inr (.inl h3)))
 by_cases h4:k=M.iW
 · exact .inr (.inr (.inr (.inr (.inl h4))))
 by_cases h5:k=M.bC
 · exact .inr (.inr (.inr (.inr (.inr (.inl h5)))))
 exact .inr (.inr (.inr (.inr (.inr (.inr ⟨dG h0,dG h1,dG h2,dG h3,dG h4,dG h5,by unfold M.isKind;simp only [h0,h1,h2,h3,h4,h5];decide⟩)))))
theorem Cm (k:ByteArray):k=M.aH∨k=M.bF∨k=M.dA∨
 (k.toList≠[115,116,114,97,105,103,104,116]∧k.toList≠[101,105,103,104,116]∧k.toList≠[110,105,110,101]∧M.oH k=false):=by
 by_cases h0:k=M.aH
 · exact .inl h0
 by_cases h1:k=M.bF
 · exact .inr (.inl h1)
 by_cases h2:k=M.dA
 · exact .inr (.inr (.inl h2))
 exact .inr (.inr (.inr ⟨dG h0,dG h1,dG h2,by unfold M.oH;simp only [h0,h1,h2];decide⟩))
theorem kT (s:ByteArray) (w:World):Calls Tryz.prog 24 #[.string s] w fun r w'=>r= .returned (.bool (M.isKind s))∧w=w':=by
 rcases wI s with rfl | rfl | rfl | rfl | rfl | rfl | ⟨h0,h1,h2,h3,h4,h5,hk⟩
 all_goals
  go_enter Tryz.func24,Tryz.ntmps24
  go_wp2;go_ret
  first | exact ⟨dD (by decide),rfl⟩ | exact ⟨dD (by rw [hk];simp [h0,h1,h2,h3,h4,h5]),rfl⟩
theorem sF:(Tryz.prog.info? 3).map (fun i=>(i.zero,i.size,i.bytes))=some (some (.int .i64 0),1,8):=by kernel_rfl
theorem Ac (k:Nat):M.kJ (k+1)=M.kJ k++[(k:Int)+1]:=by simp [M.kJ,List.range_succ]
theorem kQ (k:Nat):(M.kJ k).length=k:=by simp [M.kJ]
end Go.Proofs.YtcjglfbpjkdgiaaGreatDoor
