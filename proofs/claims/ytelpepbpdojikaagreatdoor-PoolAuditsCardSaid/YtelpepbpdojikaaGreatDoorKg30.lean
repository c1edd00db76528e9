/- Parts of the proofs about chapter 5 (pool), joined by program. -/
import Derived.Carry
import Derived.ChangeSame
import Derived.Deep.DeepHandedRow
import Derived.Deep.Slices
import Derived.Lib.SmallJoins
import Derived.Test.YtelpepbpdojikaaGreatDoorKg28
set_option maxHeartbeats 8000000
set_option maxRecDepth 100000
set_option linter.unusedVariables false
set_option linter.unusedSimpArgs false
namespace Go.Proofs.YtelpepbpdojikaaGreatDoor
open Go.RowKit
theorem Reads.dV (W:World) (t:TypeId) (n size:Nat) (cs:List Value) (hl:cs.length=n*size) (hn:n≤1000) (S:Nat→Prop) (hS:S W.heap.size):Reads (W.alloc (.cells cs.toArray t)) S size (some ⟨W.heap.size,0,none⟩) n n cs:=
 ⟨Nat.le_refl _,by omega,by omega,hl,fun _=>⟨W.heap.size,0,rfl,hS,by simp,fun j u hu=>by
  have:=dK W t cs W.heap.size rfl j u hu
  rwa [rH] at this⟩⟩
theorem JU (ts:List (List UInt8)) (ls:List M.aI) (n:Nat) (cs:List Value) (hts:M.jr ts=ls) (hcs:cs=ts.map jJ) (hn:ts.length=n) (h1:n≤1000) (h2:∀ s∈ts,s.length≤1000) (W:World) (t:TypeId):
 Calls Tryz.prog 62 #[.slice (some ⟨W.heap.size,0,none⟩) n n] (W.alloc (.cells cs.toArray t)) fun e w'=>∃ l A c,(plain l=ls∧l.length=n)∧e= .returned (.slice A n c)∧jR 66 (W.heap.size+1) l A c w'∧Below W.heap.size W w':=by
 subst hcs hn
 refine (zF (fun _=>True) ts _ _ _ (Reads.dV W t ts.length 1 _ (by simp) h1 _ trivial) h1 h2).mono ?_
 rintro e w' ⟨l,A,c,hp,rfl,hr,hb⟩
 have hlen:l.length=ts.length:=by
  have:=congrArg List.length hp
  rw [eF] at this
  rw [this];simp [M.jr]
 rw [World.size_alloc] at hr hb
 exact ⟨l,A,c,⟨hp.trans hts,hlen⟩,by rw [hlen],hr,((Below.refl W.heap.size W).alloc (Nat.le_refl _) _).trans (hb.mono (by omega))⟩
section
variable {r:M.Rules} {ls:List M.aI} {l:List Sh} {n:Nat} {A:Option Addr} {c:Nat} {S:Nat→Prop} {W:World}
theorem BO (hr:M.aH r=0) (hl:M.je ls=0) (hp:plain l=ls∧l.length=n):wP r l=0:=by
 unfold wP;rw [hp.1,hr,hl];rfl
theorem jX (s:M.State) (rs:List M.uZ) (hr:M.aH r=0) (hl:M.je ls=0) (hs:M.final r (M.start r) ls=s) (hrs:M.jy r (M.start r) 1 ls=rs) (hp:plain l=ls∧l.length=n) (h:wG W S A c l):
 Calls Tryz.prog 18 #[jM r,.slice A n c] W fun e w'=>∃ A' c' A2 c2,e= .returned (.tuple #[wF s A' c',.slice A2 rs.length c2,.int .i64 0])∧bD w' (fun b=>W.heap.size≤b) A' c' s.ay∧Reads w' (fun b=>W.heap.size≤b) 2 A2 rs.length c2 (jU rs)∧Below W.heap.size W w':=by
 have hz:=BO hr hl hp
 have:=Gj S r l A c W h
 have e1:sW r l=s:=by unfold sW;rw [if_pos hz,hp.1,hs]
 have e2:xH r l=rs:=by unfold xH;rw [if_pos hz,hp.1,hrs]
 rw [hp.2,hz,e1,e2] at this
 exact this
theorem yT (ns:List M.Note) (hr:M.aH r=0) (hl:M.je ls=0) (hs:M.notes r (M.start r) 1 ls=ns) (hp:plain l=ls∧l.length=n) (h:wG W S A c l):
 Calls Tryz.prog 19 #[jM r,.slice A n c] W fun e w'=>∃ A2 c2,e= .returned (.tuple #[.slice A2 ns.length c2,.int .i64 0])∧Reads w' (fun b=>W.heap.size≤b) 6 A2 ns.length c2 (noteCells ns)∧Below W.heap.size W w':=by
 have hz:=BO hr hl hp
 have:=Io S r l A c W h
 have e1:lH r l=ns:=by unfold lH;rw [if_pos hz,hp.1,hs]
 rw [hp.2,hz,e1] at this
 exact this
theorem JW (ns:List M.Run) (hr:M.aH r=0) (hl:M.je ls=0) (hs:M.runs r ls=ns) (hp:plain l=ls∧l.length=n) (h:wG W S A c l):
 Calls Tryz.prog 24 #[jM r,.slice A n c] W fun e w'=>∃ A2 c2,e= .returned (.tuple #[.slice A2 ns.length c2,.int .i64 0])∧Reads w' (fun b=>W.heap.size≤b) 2 A2 ns.length c2 (dN ns)∧Below W.heap.size W w':=by
 have hz:=BO hr hl hp
 have:=Ny S r l A c W h
 have e1:lM r l=ns:=by unfold lM;rw [if_pos hz,hp.1,hs]
 rw [hp.2,hz,e1] at this
 exact this
end
theorem DC (S:Nat→Prop) (A:Option Addr) (c:Nat) (W:World) (hp:bD W S A c M.xg.ay):
 Calls Tryz.prog 48 #[jM M.JC,wF M.xg A c] W fun e w'=>∃ A' c',e= .returned (.tuple #[.slice A' 7 c',.int .i64 0])∧bD w' (fun b=>W.heap.size≤b) A' c' [1,2,3,4,5,6,7]∧Below W.heap.size W w':=by
 have:=Dc S M.JC M.xg A c W hp
 rw [if_pos M.Dz,M.ER,M.Dz] at this
 exact this
structure Ag (w W:World):Prop where
 e:Held W w.heap.size [.string M.aQ,.int .i64 0,.int .i64 0] 23
 n:Held W (w.heap.size+1) [.string M.bM,.int .i64 0,.int .i64 3] 23
 s:Held W (w.heap.size+2) [.string M.aB,.int .i64 2,.int .i64 2] 23
 bw:Below w.heap.size w W
 sz:w.heap.size+3≤W.heap.size
theorem Ag.below {w W W':World} (h:Ag w W) (hb:Below W.heap.size W W'):Ag w W':=
 ⟨h.e.below hb,h.n.below hb,h.s.below hb,h.bw.trans (hb.mono (by have:=h.sz;omega)),Nat.le_trans h.sz hb.size⟩
theorem Ag.upto {w W W':World} {D:Nat} (h:Ag w W) (hb:Below D W W') (hD:w.heap.size+3≤D):Ag w W':=
 ⟨h.e.upto hb (by omega),h.n.upto hb (by omega),h.s.upto hb (by omega),h.bw.trans (hb.mono (by omega)),Nat.le_trans h.sz hb.size⟩
theorem xI (g:ByteArray) (a b:Int):∀ v∈[Value.string g,.int .i64 a,.int .i64 b],v.oneCell'=true:=by simp [Value.oneCell']
noncomputable def eG (n:Nat):Code:=dQ n ((Tryz.f17).body.getD .skip)
def OX (w:World) (D:Nat) (W:World) (v:Value):Prop:=
 ∃ A c l,v= .slice A 3 c∧(plain l=M.BN∧l.length=3)∧jR 66 (w.heap.size+3) l A c W∧∀ g,(Value.slice A 3 c).ownBlock=some g→g<D
def Gq (s:M.State) (D:Nat) (W:World) (v:Value):Prop:=∃ B A c,v=ptr B∧D≤B∧Held W B (aW s A c) 33∧bD W (fun b=>D≤b) A c s.ay
def NK (zs:List Int) (n:Nat) (D:Nat) (W:World) (v:Value):Prop:=∃ A c,v= .slice A n c∧bD W (fun b=>D≤b) A c zs
def Gp (size n:Nat) (cs:List Value) (D:Nat) (W:World) (v:Value):Prop:=∃ A c,v= .slice A n c∧Reads W (fun b=>D≤b) size A n c cs
def QT (D:Nat) (W:World) (v:Value):Prop:=∃ B A c,v=ptr B∧D≤B∧Held W B (au ⟨M.blank,A,c⟩) 66
section
variable {w W W':World} {D:Nat} {v:Value}
theorem OX.below (h:OX w D W v) (hb:Below W.heap.size W W'):OX w D W' v:=by
 obtain ⟨A,c,l,e,hp,hr,hg⟩:=h
 exact ⟨A,c,l,e,hp,hr.below hb,hg⟩
theorem Gq.below {s:M.State} (h:Gq s D W v) (hb:Below W.heap.size W W'):Gq s D W' v:=by
 obtain ⟨B,A,c,e,hD,hh,hr⟩:=h
 exact ⟨B,A,c,e,hD,hh.below hb,hr.below hb⟩
theorem NK.below {zs:List Int} {n:Nat} (h:NK zs n D W v) (hb:Below W.heap.size W W'):NK zs n D W' v:=by
 obtain ⟨A,c,e,hr⟩:=h
 exact ⟨A,c,e,hr.below hb⟩
theorem Gp.below {size n:Nat} {cs:List Value} (h:Gp size n cs D W v) (hb:Below W.heap.size W W'):Gp size n cs D W' v:=by
 obtain ⟨A,c,e,hr⟩:=h
 exact ⟨A,c,e,Reads.below hr hb⟩
theorem QT.below (h:QT D W v) (hb:Below W.heap.size W W'):QT D W' v:=by
 obtain ⟨B,A,c,e,hD,hh⟩:=h
 exact ⟨B,A,c,e,hD,hh.below hb⟩
theorem Gq.new {s:M.State} {A:Option Addr} {c:Nat} {X:World} (hX:Below X.heap.size X W) (hD:D≤X.heap.size) (hr:bD W (fun b=>X.heap.size≤b) A c s.ay) (hz:Held (W.alloc (.cells aj.toArray 33)) W.heap.size aj 33):
 Gq s D ((W.alloc (.cells aj.toArray 33)).setCells W.heap.size 0 (aW s A c)) (ptr W.heap.size)∧Below W.heap.size W ((W.alloc (.cells aj.toArray 33)).setCells W.heap.size 0 (aW s A c)):=by
 have hb:Below W.heap.size W ((W.alloc (.cells aj.toArray 33)).setCells W.heap.size 0 (aW s A c)):=below_setCells _ (Nat.le_refl _) _ _ _ _ ((Below.refl _ _).alloc (Nat.le_refl _) _)
 have:=hX.size
 exact ⟨⟨W.heap.size,A,c,rfl,by omega,hz.whole _ rfl,(hr.more (fun b _ h=>Nat.le_trans hD h)).below hb⟩,hb⟩
def EK (s:M.State) (D:Nat) (W:World) (v:Value):Prop:=∃ B A c,v=ptr B∧D≤B∧Held W B (aW s A c) 33
theorem EK.below {s:M.State} (h:EK s D W v) (hb:Below W.heap.size W W'):EK s D W' v:=by
 obtain ⟨B,A,c,e,hD,hh⟩:=h
 exact ⟨B,A,c,e,hD,hh.below hb⟩
end
structure Apart (D0 D:Nat) (W W':World):Prop where
 lo:D0≤W.heap.size
 below:Below D0 W W'
 above:∀ b,D≤b→b<W.heap.size→W'.heap[b]? =W.heap[b]?
section
variable {D0 D:Nat} {W W1 W2 w:World} {v:Value}
theorem Apart.start (h:D0≤W.heap.size):Apart D0 D W W.drew:=⟨h,(Below.refl _ _).drew,fun _ _ _=>rfl⟩
theorem Apart.size (h:Apart D0 D W W1):W.heap.size≤W1.heap.size:=h.below.size
theorem Apart.call (h:Apart D0 D W W1) (hb:Below W1.heap.size W1 W2):Apart D0 D W W2:=
 ⟨h.lo,h.below.trans (hb.mono (Nat.le_trans h.lo h.size)),fun b hD hl=>(hb.block b (Nat.lt_of_lt_of_le hl h.size)).trans (h.above b hD hl)⟩
theorem Apart.alloc (h:Apart D0 D W W1) (o:Obj):Apart D0 D W (W1.alloc o):=h.call ((Below.refl _ _).alloc (Nat.le_refl _) o)
theorem Apart.grown {row:Option Nat} (h:Apart D0 D W W1) (hg:W1.grownBy W2 row) (hr:∀ g,row=some g→D0≤g∧g<D):Apart D0 D W W2:=
 ⟨h.lo,h.below.trans ⟨hg.os,hg.tape,hg.output,hg.size,fun k hk=>hg.block k (Nat.lt_of_lt_of_le hk (Nat.le_trans h.lo h.size)) (fun e=>by have:=(hr k e.symm).1;omega)⟩,
  fun b hD hl=>(hg.block b (Nat.lt_of_lt_of_le hl h.size) (fun e=>by have:=(hr b e.symm).2;omega)).trans (h.above b hD hl)⟩
theorem Apart.sets (h:Apart D0 D W W1) {g:Nat} (hg:W.heap.size≤g) (vs:List Value) (o:Nat):Apart D0 D W (W1.setCells g o vs):=
 ⟨h.lo,below_setCells g (Nat.le_trans h.lo hg) vs o _ _ h.below,fun b hD hl=>(Held.lC (by omega) _ _ _).trans (h.above b hD hl)⟩
theorem Ag.apart (h:Ag w W) (a:Apart (w.heap.size+3) D W W1):Ag w W1:=h.upto a.below (Nat.le_refl _)
theorem Reads.apart {size n c:Nat} {A:Option Addr} {xs:List Value} (h:Reads W (fun b=>D≤b) size A n c xs) (a:Apart D0 D W W1):Reads W1 (fun b=>D≤b) size A n c xs:=
 h.keep a.size fun b o hb hl=>World.cell?_of_block (a.above b hb hl)
theorem Gq.apart {s:M.State} (h:Gq s D W v) (a:Apart D0 D W W1):Gq s D W1 v:=by
 obtain ⟨B,A,c,e,hD,hh,hr⟩:=h
 exact ⟨B,A,c,e,hD,(a.above B hD hh.lt).trans hh,Reads.apart hr a⟩
theorem NK.apart {zs:List Int} {n:Nat} (h:NK zs n D W v) (a:Apart D0 D W W1):NK zs n D W1 v:=by
 obtain ⟨A,c,e,hr⟩:=h
 exact ⟨A,c,e,Reads.apart hr a⟩
theorem Gp.apart {size n:Nat} {cs:List Value} (h:Gp size n cs D W v) (a:Apart D0 D W W1):Gp size n cs D W1 v:=by
 obtain ⟨A,c,e,hr⟩:=h
 exact ⟨A,c,e,Reads.apart hr a⟩
end
theorem Reads.newAt (W:World) (t:TypeId) (n size g:Nat) (cs:List Value) (hl:cs.length=n*size) (hn:n≤1000) (S:Nat→Prop) (hS:S g) (hg:W.heap.size=g):Reads (W.alloc (.cells cs.toArray t)) S size (some ⟨g,0,none⟩) n n cs:=by
 subst hg;exact Reads.dV W t n size cs hl hn S hS
theorem dI (ts:List (List UInt8)) (ls:List M.aI) (n:Nat) (hts:M.jr ts=ls) (hn:ts.length=n) (h1:n≤1000) (h2:∀ s∈ts,s.length≤1000) {W:World} {A0:Option Addr} {c0:Nat} (hr:Reads W (fun _=>True) 1 A0 n c0 (ts.map jJ)):
 Calls Tryz.prog 62 #[.slice A0 n c0] W fun e w'=>∃ l A c,(plain l=ls∧l.length=n)∧e= .returned (.slice A n c)∧jR 66 W.heap.size l A c w'∧Below W.heap.size W w':=by
 subst hn
 refine (zF (fun _=>True) ts _ _ _ hr h1 h2).mono ?_
 rintro e w' ⟨l,A,c,hp,rfl,hr,hb⟩
 have hlen:l.length=ts.length:=by
  have:=congrArg List.length hp
  rw [eF] at this
  rw [this];simp [M.jr]
 exact ⟨l,A,c,⟨hp.trans hts,hlen⟩,by rw [hlen],hr,hb⟩
theorem cO {r:M.Rules} {ls:List M.aI} {l:List Sh} {n:Nat} {A:Option Addr} {c:Nat} {S:Nat→Prop} {W:World} (s:M.State) (hr:M.aH r=0) (hl:M.je ls=0) (hs:M.final r (M.start r) ls=s) (hp:plain l=ls∧l.length=n) (h:wG W S A c l):
 Calls Tryz.prog 18 #[jM r,.slice A n c] W fun e w'=>∃ A' c' A2 k2 c2,e= .returned (.tuple #[wF s A' c',.slice A2 k2 c2,.int .i64 0])∧Below W.heap.size W w':=by
 refine (jX s _ hr hl hs rfl hp h).mono ?_
 rintro e w' ⟨A',c',A2,c2,rfl,_,_,hb⟩
 exact ⟨A',c',A2,_,c2,rfl,hb⟩
theorem jR.kX {e:TypeId} {D n:Nat} {l:List Sh} {A:Option Addr} {c g1 cap:Nat} {W0 W w4:World} {x:Sh} (h:jR e D l A c W0) (hn:l.length=n) (hb:Below W0.heap.size W0 W) (hD:D≤W0.heap.size) (hx:jl W (fun b=>W0.heap.size≤b) x.a x.c x.x.aA)
 (hgrow:W.grownBy w4 (Value.slice A n c).ownBlock) (hown4:w4.ownsRow D e 7 (.slice (some ⟨g1,0,none⟩) (n+1) cap) (n+1) (bI l++au x)) (hat:(Value.slice A n c).ownBlock=some g1∨g1=W.heap.size):
 jR e D (l++[x]) (some ⟨g1,0,none⟩) cap w4:=by
 subst hn
 have hlt:∀ g,(Value.slice A l.length c).ownBlock=some g→g<W0.heap.size:=fun g hg=>(Array.getElem?_eq_some_iff.1 (bg h.own hg).2.choose_spec.1).1
 have hs:=hb.size
 have key:∀ y:Sh,jl W (fun b=>D≤b∧(Value.slice A l.length c).ownBlock≠some b) y.a y.c y.x.aA→jl w4 (fun b=>D≤b∧(some g1:Option Nat)≠some b) y.a y.c y.x.aA:=fun y hy=>by
  have h1:=Reads.more hy (S':=fun b=>(D≤b∧(Value.slice A l.length c).ownBlock≠some b)∧b<W.heap.size) (fun b hb h=>⟨h,hb⟩)
  have h2:=Reads.keep h1 (by have:=hgrow.size;omega) (w':=w4) (fun b o hb hlt=>hgrow.cell_far ⟨b,o,none⟩ hlt (fun e=>hb.1.2 e.symm))
  refine Reads.more h2 (fun b _ hb=>⟨hb.1.1,fun e=>?_⟩)
  cases e
  rcases hat with h3 | h3
  · exact hb.1.2 h3
  · have:=hb.2;omega
 have hl:(l++[x]).length=l.length+1:=by simp
 refine ⟨?_,fun y hy=>?_⟩
 · rw [hl,nI]
   have:bI [x]=au x:=by simp [bI]
   rw [this]
   exact hown4
 · rw [hl]
   rcases List.mem_append.1 hy with hy | hy
   · exact key y (Reads.below (h.each y hy) hb)
   · obtain rfl:=List.mem_singleton.1 hy
     exact key _ (Reads.more hx (fun b _ hb=>⟨Nat.le_trans hD hb,fun e=>by have:=hlt b e;have hb:W0.heap.size≤b:=hb;omega⟩))
theorem jK (W:World) (o:Obj):Below W.heap.size W (W.drew.alloc o):=(Below.refl _ W).drew.alloc (Nat.le_refl _) o
theorem kZ (W:World) (o p:Obj):Below W.heap.size W ((W.drew.alloc o).alloc p):=(jK W o).alloc (jK W o).size p
theorem Held.grown {W W':World} {g:Nat} {cs:List Value} {t:TypeId} {row:Option Nat} (h:Held W g cs t) (hg:W.grownBy W' row) (hne:row=some g→False):Held W' g cs t:=(hg.block g h.lt (fun e=>hne e.symm)).trans h
theorem Reads.over {W X:World} {S:Nat→Prop} {size n c g o:Nat} {A:Option Addr} {xs vs:List Value} (h:Reads W S size A n c xs) (hb:Below W.heap.size W X) (hg:∀ b,b<W.heap.size→S b→b≠g):Reads (X.setCells g o vs) S size A n c xs:=
 h.keep (by rw [setCells_size];exact hb.size) fun b i hs hl=>(kN _ _ _ _ (hg b hl hs)).trans (hb.cell (p:=⟨b,i,none⟩) hl)
theorem lI {l:List Sh} (h:l.length=1):∃ x,l=[x]:=by match l,h with | [x],_=>exact ⟨x,rfl⟩
@[reducible] def Us (w:World):Prop:=∀ (z0 z1 z2 z3 z4 z5 z6 z7 z8 z9 z10 z11 z12 z13 kD kK kF z17 kL jQ z20 z21 z22 z23 z24 z25 z26 z27 z28 z29 z30 z31 z32 z33 z34 z35 z36 z37 z38 z39 z40 z41 z42 z43 z44 z45 z46 z47 z48 z49 z50 z51 z52 z53 z54 z55 z56 z57 z58 z59 z60 z61 z62 z63 z64 z65 z66 z67 z68 z69 z70 z71 z72 z73 z74 z75 z76 z77 z78 z79 z80 mM z82 z83 z84 z85 z86 z87 mO z89 mP z91 mQ z93 mV mW mX mY mZ ng eU eX eY fA fB z105 fC z107 fD z109 fF fG fH fJ fK fM z116 z117 fO z119 fP fQ fU fV z124 fZ gq z127 gu gy z130 z131 gB gG gI gJ gK gQ z138 z139 gU z141 gV z143 gW z145 z146 gZ z148 ig iq iw z152 iy z154 iC z156 z157 iD z159 z160 iE z162 iF z164 iG iH z167 z168 nK nM z171 nN z173 nO z175 nP nR nS nT nU nV z182 z183 nX nY nZ og oh oq ou oz oC z193 z194 oD z196 oG z198 oH oI z201 oJ z203 oK oL z206 oM z208 oN z210 oO z212 z213 oP oQ oU oV z218 oW oZ o7 z222 o8 pq pz z226 z227 z228 z229 pF pG z232 z233 z234 pI z236 pJ pK pO pR pU pV pW pX pY qc qg qh qj ql qm qo qp qw qx qy qA qB qC qE qF qG qH qI qJ qK qL qM qN qO qP qQ:Value) (W:World),(z1=ptr w.heap.size∧z2=ptr (w.heap.size+1)∧z3=ptr (w.heap.size+2)∧Ag w W)→(eG 2).wp Tryz.prog (bodyPost Tryz.prog Tryz.f17 (fun e w'=>e= .returned (.bool true)∧Below w.heap.size w w')) {tmps:= #[z0,z1,z2,z3,z4,z5,z6,z7,z8,z9,z10,z11,z12,z13,kD,kK,kF,z17,kL,jQ,z20,z21,z22,z23,z24,z25,z26,z27,z28,z29,z30,z31,z32,z33,z34,z35,z36,z37,z38,z39,z40,z41,z42,z43,z44,z45,z46,z47,z48,z49,z50,z51,z52,z53,z54,z55,z56,z57,z58,z59,z60,z61,z62,z63,z64,z65,z66,z67,z68,z69,z70,z71,z72,z73,z74,z75,z76,z77,z78,z79,z80,mM,z82,z83,z84,z85,z86,z87,mO,z89,mP,z91,mQ,z93,mV,mW,mX,mY,mZ,ng,eU,eX,eY,fA,fB,z105,fC,z107,fD,z109,fF,fG,fH,fJ,fK,fM,z116,z117,fO,z119,fP,fQ,fU,fV,z124,fZ,gq,z127,gu,gy,z130,z131,gB,gG,gI,gJ,gK,gQ,z138,z139,gU,z141,gV,z143,gW,z145,z146,gZ,z148,ig,iq,iw,z152,iy,z154,iC,z156,z157,iD,z159,z160,iE,z162,iF,z164,iG,iH,z167,z168,nK,nM,z171,nN,z173,nO,z175,nP,nR,nS,nT,nU,nV,z182,z183,nX,nY,nZ,og,oh,oq,ou,oz,oC,z193,z194,oD,z196,oG,z198,oH,oI,z201,oJ,z203,oK,oL,z206,oM,z208,oN,z210,oO,z212,z213,oP,oQ,oU,oV,z218,oW,oZ,o7,z222,o8,pq,pz,z226,z227,z228,z229,pF,pG,z232,z233,z234,pI,z236,pJ,pK,pO,pR,pU,pV,pW,pX,pY,qc,qg,qh,qj,ql,qm,qo,qp,qw,qx,qy,qA,qB,qC,qE,qF,qG,qH,qI,qJ,qK,qL,qM,qN,qO,qP,qQ],defers:=[] } W
@[reducible] def QU (w:World):Prop:=∀ (D:Nat) (z0 z1 z2 z3 z4 z5 z6 z7 z8 z9 z10 z11 z12 z13 kD kK kF z17 kL jQ z20 z21 z22 z23 z24 z25 z26 z27 z28 z29 z30 z31 z32 z33 z34 z35 z36 z37 z38 z39 z40 z41 z42 z43 z44 z45 z46 z47 z48 z49 z50 z51 z52 z53 z54 z55 z56 z57 z58 z59 z60 z61 z62 z63 z64 z65 z66 z67 z68 z69 z70 z71 z72 z73 z74 z75 z76 z77 z78 z79 z80 mM z82 z83 z84 z85 z86 z87 mO z89 mP z91 mQ z93 mV mW mX mY mZ ng eU eX eY fA fB z105 fC z107 fD z109 fF fG fH fJ fK fM z116 z117 fO z119 fP fQ fU fV z124 fZ gq z127 gu gy z130 z131 gB gG gI gJ gK gQ z138 z139 gU z141 gV z143 gW z145 z146 gZ z148 ig iq iw z152 iy z154 iC z156 z157 iD z159 z160 iE z162 iF z164 iG iH z167 z168 nK nM z171 nN z173 nO z175 nP nR nS nT nU nV z182 z183 nX nY nZ og oh oq ou oz oC z193 z194 oD z196 oG z198 oH oI z201 oJ z203 oK oL z206 oM z208 oN z210 oO z212 z213 oP oQ oU oV z218 oW oZ o7 z222 o8 pq pz z226 z227 z228 z229 pF pG z232 z233 z234 pI z236 pJ pK pO pR pU pV pW pX pY qc qg qh qj ql qm qo qp qw qx qy qA qB qC qE qF qG qH qI qJ qK qL qM qN qO qP qQ:Value) (W:World),(z1=ptr w.heap.size∧z2=ptr (w.heap.size+1)∧z3=ptr (w.heap.size+2)∧Ag w W∧w.heap.size+3≤D∧D≤W.heap.size∧OX w D W z4)→(eG 3).wp Tryz.prog (bodyPost Tryz.prog Tryz.f17 (fun e w'=>e= .returned (.bool true)∧Below w.heap.size w w')) {tmps:= #[z0,z1,z2,z3,z4,z5,z6,z7,z8,z9,z10,z11,z12,z13,kD,kK,kF,z17,kL,jQ,z20,z21,z22,z23,z24,z25,z26,z27,z28,z29,z30,z31,z32,z33,z34,z35,z36,z37,z38,z39,z40,z41,z42,z43,z44,z45,z46,z47,z48,z49,z50,z51,z52,z53,z54,z55,z56,z57,z58,z59,z60,z61,z62,z63,z64,z65,z66,z67,z68,z69,z70,z71,z72,z73,z74,z75,z76,z77,z78,z79,z80,mM,z82,z83,z84,z85,z86,z87,mO,z89,mP,z91,mQ,z93,mV,mW,mX,mY,mZ,ng,eU,eX,eY,fA,fB,z105,fC,z107,fD,z109,fF,fG,fH,fJ,fK,fM,z116,z117,fO,z119,fP,fQ,fU,fV,z124,fZ,gq,z127,gu,gy,z130,z131,gB,gG,gI,gJ,gK,gQ,z138,z139,gU,z141,gV,z143,gW,z145,z146,gZ,z148,ig,iq,iw,z152,iy,z154,iC,z156,z157,iD,z159,z160,iE,z162,iF,z164,iG,iH,z167,z168,nK,nM,z171,nN,z173,nO,z175,nP,nR,nS,nT,nU,nV,z182,z183,nX,nY,nZ,og,oh,oq,ou,oz,oC,z193,z194,oD,z196,oG,z198,oH,oI,z201,oJ,z203,oK,oL,z206,oM,z208,oN,z210,oO,z212,z213,oP,oQ,oU,oV,z218,oW,oZ,o7,z222,o8,pq,pz,z226,z227,z228,z229,pF,pG,z232,z233,z234,pI,z236,pJ,pK,pO,pR,pU,pV,pW,pX,pY,qc,qg,qh,qj,ql,qm,qo,qp,qw,qx,qy,qA,qB,qC,qE,qF,qG,qH,qI,qJ,qK,qL,qM,qN,qO,qP,qQ],defers:=[] } W
@[reducible] def QV (w:World):Prop:=∀ (D:Nat) (z0 z1 z2 z3 z4 z5 z6 z7 z8 z9 z10 z11 z12 z13 kD kK kF z17 kL jQ z20 z21 z22 z23 z24 z25 z26 z27 z28 z29 z30 z31 z32 z33 z34 z35 z36 z37 z38 z39 z40 z41 z42 z43 z44 z45 z46 z47 z48 z49 z50 z51 z52 z53 z54 z55 z56 z57 z58 z59 z60 z61 z62 z63 z64 z65 z66 z67 z68 z69 z70 z71 z72 z73 z74 z75 z76 z77 z78 z79 z80 mM z82 z83 z84 z85 z86 z87 mO z89 mP z91 mQ z93 mV mW mX mY mZ ng eU eX eY fA fB z105 fC z107 fD z109 fF fG fH fJ fK fM z116 z117 fO z119 fP fQ fU fV z124 fZ gq z127 gu gy z130 z131 gB gG gI gJ gK gQ z138 z139 gU z141 gV z143 gW z145 z146 gZ z148 ig iq iw z152 iy z154 iC z156 z157 iD z159 z160 iE z162 iF z164 iG iH z167 z168 nK nM z171 nN z173 nO z175 nP nR nS nT nU nV z182 z183 nX nY nZ og oh oq ou oz oC z193 z194 oD z196 oG z198 oH oI z201 oJ z203 oK oL z206 oM z208 oN z210 oO z212 z213 oP oQ oU oV z218 oW oZ o7 z222 o8 pq pz z226 z227 z228 z229 pF pG z232 z233 z234 pI z236 pJ pK pO pR pU pV pW pX pY qc qg qh qj ql qm qo qp qw qx qy qA qB qC qE qF qG qH qI qJ qK qL qM qN qO qP qQ:Value) (W:World),(z1=ptr w.heap.size∧z2=ptr (w.heap.size+1)∧z3=ptr (w.heap.size+2)∧Ag w W∧w.heap.size+3≤D∧D≤W.heap.size∧OX w D W z4∧Gq M.xg D W z5∧z7= .int .i64 0)→(eG 4).wp Tryz.prog (bodyPost Tryz.prog Tryz.f17 (fun e w'=>e= .returned (.bool true)∧Below w.heap.size w w')) {tmps:= #[z0,z1,z2,z3,z4,z5,z6,z7,z8,z9,z10,z11,z12,z13,kD,kK,kF,z17,kL,jQ,z20,z21,z22,z23,z24,z25,z26,z27,z28,z29,z30,z31,z32,z33,z34,z35,z36,z37,z38,z39,z40,z41,z42,z43,z44,z45,z46,z47,z48,z49,z50,z51,z52,z53,z54,z55,z56,z57,z58,z59,z60,z61,z62,z63,z64,z65,z66,z67,z68,z69,z70,z71,z72,z73,z74,z75,z76,z77,z78,z79,z80,mM,z82,z83,z84,z85,z86,z87,mO,z89,mP,z91,mQ,z93,mV,mW,mX,mY,mZ,ng,eU,eX,eY,fA,fB,z105,fC,z107,fD,z109,fF,fG,fH,fJ,fK,fM,z116,z117,fO,z119,fP,fQ,fU,fV,z124,fZ,gq,z127,gu,gy,z130,z131,gB,gG,gI,gJ,gK,gQ,z138,z139,gU,z141,gV,z143,gW,z145,z146,gZ,z148,ig,iq,iw,z152,iy,z154,iC,z156,z157,iD,z159,z160,iE,z162,iF,z164,iG,iH,z167,z168,nK,nM,z171,nN,z173,nO,z175,nP,nR,nS,nT,nU,nV,z182,z183,nX,nY,nZ,og,oh,oq,ou,oz,oC,z193,z194,oD,z196,oG,z198,oH,oI,z201,oJ,z203,oK,oL,z206,oM,z208,oN,z210,oO,z212,z213,oP,oQ,oU,oV,z218,oW,oZ,o7,z222,o8,pq,pz,z226,z227,z228,z229,pF,pG,z232,z233,z234,pI,z236,pJ,pK,pO,pR,pU,pV,pW,pX,pY,qc,qg,qh,qj,ql,qm,qo,qp,qw,qx,qy,qA,qB,qC,qE,qF,qG,qH,qI,qJ,qK,qL,qM,qN,qO,qP,qQ],defers:=[] } W
@[reducible] def QW (w:World):Prop:=∀ (D:Nat) (z0 z1 z2 z3 z4 z5 z6 z7 z8 z9 z10 z11 z12 z13 kD kK kF z17 kL jQ z20 z21 z22 z23 z24 z25 z26 z27 z28 z29 z30 z31 z32 z33 z34 z35 z36 z37 z38 z39 z40 z41 z42 z43 z44 z45 z46 z47 z48 z49 z50 z51 z52 z53 z54 z55 z56 z57 z58 z59 z60 z61 z62 z63 z64 z65 z66 z67 z68 z69 z70 z71 z72 z73 z74 z75 z76 z77 z78 z79 z80 mM z82 z83 z84 z85 z86 z87 mO z89 mP z91 mQ z93 mV mW mX mY mZ ng eU eX eY fA fB z105 fC z107 fD z109 fF fG fH fJ fK fM z116 z117 fO z119 fP fQ fU fV z124 fZ gq z127 gu gy z130 z131 gB gG gI gJ gK gQ z138 z139 gU z141 gV z143 gW z145 z146 gZ z148 ig iq iw z152 iy z154 iC z156 z157 iD z159 z160 iE z162 iF z164 iG iH z167 z168 nK nM z171 nN z173 nO z175 nP nR nS nT nU nV z182 z183 nX nY nZ og oh oq ou oz oC z193 z194 oD z196 oG z198 oH oI z201 oJ z203 oK oL z206 oM z208 oN z210 oO z212 z213 oP oQ oU oV z218 oW oZ o7 z222 o8 pq pz z226 z227 z228 z229 pF pG z232 z233 z234 pI z236 pJ pK pO pR pU pV pW pX pY qc qg qh qj ql qm qo qp qw qx qy qA qB qC qE qF qG qH qI qJ qK qL qM qN qO qP qQ:Value) (W:World),(z1=ptr w.heap.size∧z2=ptr (w.heap.size+1)∧z3=ptr (w.heap.size+2)∧Ag w W∧w.heap.size+3≤D∧D≤W.heap.size∧OX w D W z4∧Gq M.xg D W z5∧z7= .int .i64 0∧NK [1,2,3,4,5,6,7] 7 D W z8∧z9= .int .i64 0)→(eG 5).wp Tryz.prog (bodyPost Tryz.prog Tryz.f17 (fun e w'=>e= .returned (.bool true)∧Below w.heap.size w w')) {tmps:= #[z0,z1,z2,z3,z4,z5,z6,z7,z8,z9,z10,z11,z12,z13,kD,kK,kF,z17,kL,jQ,z20,z21,z22,z23,z24,z25,z26,z27,z28,z29,z30,z31,z32,z33,z34,z35,z36,z37,z38,z39,z40,z41,z42,z43,z44,z45,z46,z47,z48,z49,z50,z51,z52,z53,z54,z55,z56,z57,z58,z59,z60,z61,z62,z63,z64,z65,z66,z67,z68,z69,z70,z71,z72,z73,z74,z75,z76,z77,z78,z79,z80,mM,z82,z83,z84,z85,z86,z87,mO,z89,mP,z91,mQ,z93,mV,mW,mX,mY,mZ,ng,eU,eX,eY,fA,fB,z105,fC,z107,fD,z109,fF,fG,fH,fJ,fK,fM,z116,z117,fO,z119,fP,fQ,fU,fV,z124,fZ,gq,z127,gu,gy,z130,z131,gB,gG,gI,gJ,gK,gQ,z138,z139,gU,z141,gV,z143,gW,z145,z146,gZ,z148,ig,iq,iw,z152,iy,z154,iC,z156,z157,iD,z159,z160,iE,z162,iF,z164,iG,iH,z167,z168,nK,nM,z171,nN,z173,nO,z175,nP,nR,nS,nT,nU,nV,z182,z183,nX,nY,nZ,og,oh,oq,ou,oz,oC,z193,z194,oD,z196,oG,z198,oH,oI,z201,oJ,z203,oK,oL,z206,oM,z208,oN,z210,oO,z212,z213,oP,oQ,oU,oV,z218,oW,oZ,o7,z222,o8,pq,pz,z226,z227,z228,z229,pF,pG,z232,z233,z234,pI,z236,pJ,pK,pO,pR,pU,pV,pW,pX,pY,qc,qg,qh,qj,ql,qm,qo,qp,qw,qx,qy,qA,qB,qC,qE,qF,qG,qH,qI,qJ,qK,qL,qM,qN,qO,qP,qQ],defers:=[] } W
@[reducible] def QX (w:World):Prop:=∀ (D:Nat) (z0 z1 z2 z3 z4 z5 z6 z7 z8 z9 z10 z11 z12 z13 kD kK kF z17 kL jQ z20 z21 z22 z23 z24 z25 z26 z27 z28 z29 z30 z31 z32 z33 z34 z35 z36 z37 z38 z39 z40 z41 z42 z43 z44 z45 z46 z47 z48 z49 z50 z51 z52 z53 z54 z55 z56 z57 z58 z59 z60 z61 z62 z63 z64 z65 z66 z67 z68 z69 z70 z71 z72 z73 z74 z75 z76 z77 z78 z79 z80 mM z82 z83 z84 z85 z86 z87 mO z89 mP z91 mQ z93 mV mW mX mY mZ ng eU eX eY fA fB z105 fC z107 fD z109 fF fG fH fJ fK fM z116 z117 fO z119 fP fQ fU fV z124 fZ gq z127 gu gy z130 z131 gB gG gI gJ gK gQ z138 z139 gU z141 gV z143 gW z145 z146 gZ z148 ig iq iw z152 iy z154 iC z156 z157 iD z159 z160 iE z162 iF z164 iG iH z167 z168 nK nM z171 nN z173 nO z175 nP nR nS nT nU nV z182 z183 nX nY nZ og oh oq ou oz oC z193 z194 oD z196 oG z198 oH oI z201 oJ z203 oK oL z206 oM z208 oN z210 oO z212 z213 oP oQ oU oV z218 oW oZ o7 z222 o8 pq pz z226 z227 z228 z229 pF pG z232 z233 z234 pI z236 pJ pK pO pR pU pV pW pX pY qc qg qh qj ql qm qo qp qw qx qy qA qB qC qE qF qG qH qI qJ qK qL qM qN qO qP qQ:Value) (W:World),(z1=ptr w.heap.size∧z2=ptr (w.heap.size+1)∧z3=ptr (w.heap.size+2)∧Ag w W∧w.heap.size+3≤D∧D≤W.heap.size∧OX w D W z4∧Gq M.xg D W z5∧z7= .int .i64 0∧NK [1,2,3,4,5,6,7] 7 D W z8∧z9= .int .i64 0∧Gp 6 3 (noteCells [⟨1,0,0,0,1,false⟩,⟨2,0,0,0,1,false⟩,⟨3,0,0,3,0,true⟩]) D W z10∧z11= .int .i64 0)→(eG 6).wp Tryz.prog (bodyPost Tryz.prog Tryz.f17 (fun e w'=>e= .returned (.bool true)∧Below w.heap.size w w')) {tmps:= #[z0,z1,z2,z3,z4,z5,z6,z7,z8,z9,z10,z11,z12,z13,kD,kK,kF,z17,kL,jQ,z20,z21,z22,z23,z24,z25,z26,z27,z28,z29,z30,z31,z32,z33,z34,z35,z36,z37,z38,z39,z40,z41,z42,z43,z44,z45,z46,z47,z48,z49,z50,z51,z52,z53,z54,z55,z56,z57,z58,z59,z60,z61,z62,z63,z64,z65,z66,z67,z68,z69,z70,z71,z72,z73,z74,z75,z76,z77,z78,z79,z80,mM,z82,z83,z84,z85,z86,z87,mO,z89,mP,z91,mQ,z93,mV,mW,mX,mY,mZ,ng,eU,eX,eY,fA,fB,z105,fC,z107,fD,z109,fF,fG,fH,fJ,fK,fM,z116,z117,fO,z119,fP,fQ,fU,fV,z124,fZ,gq,z127,gu,gy,z130,z131,gB,gG,gI,gJ,gK,gQ,z138,z139,gU,z141,gV,z143,gW,z145,z146,gZ,z148,ig,iq,iw,z152,iy,z154,iC,z156,z157,iD,z159,z160,iE,z162,iF,z164,iG,iH,z167,z168,nK,nM,z171,nN,z173,nO,z175,nP,nR,nS,nT,nU,nV,z182,z183,nX,nY,nZ,og,oh,oq,ou,oz,oC,z193,z194,oD,z196,oG,z198,oH,oI,z201,oJ,z203,oK,oL,z206,oM,z208,oN,z210,oO,z212,z213,oP,oQ,oU,oV,z218,oW,oZ,o7,z222,o8,pq,pz,z226,z227,z228,z229,pF,pG,z232,z233,z234,pI,z236,pJ,pK,pO,pR,pU,pV,pW,pX,pY,qc,qg,qh,qj,ql,qm,qo,qp,qw,qx,qy,qA,qB,qC,qE,qF,qG,qH,qI,qJ,qK,qL,qM,qN,qO,qP,qQ],defers:=[] } W
@[reducible] def QY (w:World):Prop:=∀ (D:Nat) (z0 z1 z2 z3 z4 z5 z6 z7 z8 z9 z10 z11 z12 z13 kD kK kF z17 kL jQ z20 z21 z22 z23 z24 z25 z26 z27 z28 z29 z30 z31 z32 z33 z34 z35 z36 z37 z38 z39 z40 z41 z42 z43 z44 z45 z46 z47 z48 z49 z50 z51 z52 z53 z54 z55 z56 z57 z58 z59 z60 z61 z62 z63 z64 z65 z66 z67 z68 z69 z70 z71 z72 z73 z74 z75 z76 z77 z78 z79 z80 mM z82 z83 z84 z85 z86 z87 mO z89 mP z91 mQ z93 mV mW mX mY mZ ng eU eX eY fA fB z105 fC z107 fD z109 fF fG fH fJ fK fM z116 z117 fO z119 fP fQ fU fV z124 fZ gq z127 gu gy z130 z131 gB gG gI gJ gK gQ z138 z139 gU z141 gV z143 gW z145 z146 gZ z148 ig iq iw z152 iy z154 iC z156 z157 iD z159 z160 iE z162 iF z164 iG iH z167 z168 nK nM z171 nN z173 nO z175 nP nR nS nT nU nV z182 z183 nX nY nZ og oh oq ou oz oC z193 z194 oD z196 oG z198 oH oI z201 oJ z203 oK oL z206 oM z208 oN z210 oO z212 z213 oP oQ oU oV z218 oW oZ o7 z222 o8 pq pz z226 z227 z228 z229 pF pG z232 z233 z234 pI z236 pJ pK pO pR pU pV pW pX pY qc qg qh qj ql qm qo qp qw qx qy qA qB qC qE qF qG qH qI qJ qK qL qM qN qO qP qQ:Value) (W:World),(z1=ptr w.heap.size∧z2=ptr (w.heap.size+1)∧z3=ptr (w.heap.size+2)∧Ag w W∧w.heap.size+3≤D∧D≤W.heap.size∧OX w D W z4∧Gq M.xg D W z5∧z7= .int .i64 0∧NK [1,2,3,4,5,6,7] 7 D W z8∧z9= .int .i64 0∧Gp 6 3 (noteCells [⟨1,0,0,0,1,false⟩,⟨2,0,0,0,1,false⟩,⟨3,0,0,3,0,true⟩]) D W z10∧z11= .int .i64 0∧Gp 2 1 (dN [⟨0,2⟩]) D W z12∧z13= .int .i64 0)→(eG 7).wp Tryz.prog (bodyPost Tryz.prog Tryz.f17 (fun e w'=>e= .returned (.bool true)∧Below w.heap.size w w')) {tmps:= #[z0,z1,z2,z3,z4,z5,z6,z7,z8,z9,z10,z11,z12,z13,kD,kK,kF,z17,kL,jQ,z20,z21,z22,z23,z24,z25,z26,z27,z28,z29,z30,z31,z32,z33,z34,z35,z36,z37,z38,z39,z40,z41,z42,z43,z44,z45,z46,z47,z48,z49,z50,z51,z52,z53,z54,z55,z56,z57,z58,z59,z60,z61,z62,z63,z64,z65,z66,z67,z68,z69,z70,z71,z72,z73,z74,z75,z76,z77,z78,z79,z80,mM,z82,z83,z84,z85,z86,z87,mO,z89,mP,z91,mQ,z93,mV,mW,mX,mY,mZ,ng,eU,eX,eY,fA,fB,z105,fC,z107,fD,z109,fF,fG,fH,fJ,fK,fM,z116,z117,fO,z119,fP,fQ,fU,fV,z124,fZ,gq,z127,gu,gy,z130,z131,gB,gG,gI,gJ,gK,gQ,z138,z139,gU,z141,gV,z143,gW,z145,z146,gZ,z148,ig,iq,iw,z152,iy,z154,iC,z156,z157,iD,z159,z160,iE,z162,iF,z164,iG,iH,z167,z168,nK,nM,z171,nN,z173,nO,z175,nP,nR,nS,nT,nU,nV,z182,z183,nX,nY,nZ,og,oh,oq,ou,oz,oC,z193,z194,oD,z196,oG,z198,oH,oI,z201,oJ,z203,oK,oL,z206,oM,z208,oN,z210,oO,z212,z213,oP,oQ,oU,oV,z218,oW,oZ,o7,z222,o8,pq,pz,z226,z227,z228,z229,pF,pG,z232,z233,z234,pI,z236,pJ,pK,pO,pR,pU,pV,pW,pX,pY,qc,qg,qh,qj,ql,qm,qo,qp,qw,qx,qy,qA,qB,qC,qE,qF,qG,qH,qI,qJ,qK,qL,qM,qN,qO,qP,qQ],defers:=[] } W
@[reducible] def QZ (w:World):Prop:=∀ (D:Nat) (z0 z1 z2 z3 z4 z5 z6 z7 z8 z9 z10 z11 z12 z13 kD kK kF z17 kL jQ z20 z21 z22 z23 z24 z25 z26 z27 z28 z29 z30 z31 z32 z33 z34 z35 z36 z37 z38 z39 z40 z41 z42 z43 z44 z45 z46 z47 z48 z49 z50 z51 z52 z53 z54 z55 z56 z57 z58 z59 z60 z61 z62 z63 z64 z65 z66 z67 z68 z69 z70 z71 z72 z73 z74 z75 z76 z77 z78 z79 z80 mM z82 z83 z84 z85 z86 z87 mO z89 mP z91 mQ z93 mV mW mX mY mZ ng eU eX eY fA fB z105 fC z107 fD z109 fF fG fH fJ fK fM z116 z117 fO z119 fP fQ fU fV z124 fZ gq z127 gu gy z130 z131 gB gG gI gJ gK gQ z138 z139 gU z141 gV z143 gW z145 z146 gZ z148 ig iq iw z152 iy z154 iC z156 z157 iD z159 z160 iE z162 iF z164 iG iH z167 z168 nK nM z171 nN z173 nO z175 nP nR nS nT nU nV z182 z183 nX nY nZ og oh oq ou oz oC z193 z194 oD z196 oG z198 oH oI z201 oJ z203 oK oL z206 oM z208 oN z210 oO z212 z213 oP oQ oU oV z218 oW oZ o7 z222 o8 pq pz z226 z227 z228 z229 pF pG z232 z233 z234 pI z236 pJ pK pO pR pU pV pW pX pY qc qg qh qj ql qm qo qp qw qx qy qA qB qC qE qF qG qH qI qJ qK qL qM qN qO qP qQ:Value) (W:World),(z1=ptr w.heap.size∧z2=ptr (w.heap.size+1)∧z3=ptr (w.heap.size+2)∧Ag w W∧w.heap.size+3≤D∧D≤W.heap.size∧Gq M.xg D W z5∧z7= .int .i64 0∧NK [1,2,3,4,5,6,7] 7 D W z8∧z9= .int .i64 0∧Gp 6 3 (noteCells [⟨1,0,0,0,1,false⟩,⟨2,0,0,0,1,false⟩,⟨3,0,0,3,0,true⟩]) D W z10∧z11= .int .i64 0∧Gp 2 1 (dN [⟨0,2⟩]) D W z12∧z13= .int .i64 0∧EK M.vO D W kD∧kF= .int .i64 0)→(eG 8).wp Tryz.prog (bodyPost Tryz.prog Tryz.f17 (fun e w'=>e= .returned (.bool true)∧Below w.heap.size w w')) {tmps:= #[z0,z1,z2,z3,z4,z5,z6,z7,z8,z9,z10,z11,z12,z13,kD,kK,kF,z17,kL,jQ,z20,z21,z22,z23,z24,z25,z26,z27,z28,z29,z30,z31,z32,z33,z34,z35,z36,z37,z38,z39,z40,z41,z42,z43,z44,z45,z46,z47,z48,z49,z50,z51,z52,z53,z54,z55,z56,z57,z58,z59,z60,z61,z62,z63,z64,z65,z66,z67,z68,z69,z70,z71,z72,z73,z74,z75,z76,z77,z78,z79,z80,mM,z82,z83,z84,z85,z86,z87,mO,z89,mP,z91,mQ,z93,mV,mW,mX,mY,mZ,ng,eU,eX,eY,fA,fB,z105,fC,z107,fD,z109,fF,fG,fH,fJ,fK,fM,z116,z117,fO,z119,fP,fQ,fU,fV,z124,fZ,gq,z127,gu,gy,z130,z131,gB,gG,gI,gJ,gK,gQ,z138,z139,gU,z141,gV,z143,gW,z145,z146,gZ,z148,ig,iq,iw,z152,iy,z154,iC,z156,z157,iD,z159,z160,iE,z162,iF,z164,iG,iH,z167,z168,nK,nM,z171,nN,z173,nO,z175,nP,nR,nS,nT,nU,nV,z182,z183,nX,nY,nZ,og,oh,oq,ou,oz,oC,z193,z194,oD,z196,oG,z198,oH,oI,z201,oJ,z203,oK,oL,z206,oM,z208,oN,z210,oO,z212,z213,oP,oQ,oU,oV,z218,oW,oZ,o7,z222,o8,pq,pz,z226,z227,z228,z229,pF,pG,z232,z233,z234,pI,z236,pJ,pK,pO,pR,pU,pV,pW,pX,pY,qc,qg,qh,qj,ql,qm,qo,qp,qw,qx,qy,qA,qB,qC,qE,qF,qG,qH,qI,qJ,qK,qL,qM,qN,qO,qP,qQ],defers:=[] } W
@[reducible] def OO (w:World):Prop:=∀ (z0 z1 z2 z3 z4 z5 z6 z7 z8 z9 z10 z11 z12 z13 kD kK kF z17 kL jQ z20 z21 z22 z23 z24 z25 z26 z27 z28 z29 z30 z31 z32 z33 z34 z35 z36 z37 z38 z39 z40 z41 z42 z43 z44 z45 z46 z47 z48 z49 z50 z51 z52 z53 z54 z55 z56 z57 z58 z59 z60 z61 z62 z63 z64 z65 z66 z67 z68 z69 z70 z71 z72 z73 z74 z75 z76 z77 z78 z79 z80 mM z82 z83 z84 z85 z86 z87 mO z89 mP z91 mQ z93 mV mW mX mY mZ ng eU eX eY fA fB z105 fC z107 fD z109 fF fG fH fJ fK fM z116 z117 fO z119 fP fQ fU fV z124 fZ gq z127 gu gy z130 z131 gB gG gI gJ gK gQ z138 z139 gU z141 gV z143 gW z145 z146 gZ z148 ig iq iw z152 iy z154 iC z156 z157 iD z159 z160 iE z162 iF z164 iG iH z167 z168 nK nM z171 nN z173 nO z175 nP nR nS nT nU nV z182 z183 nX nY nZ og oh oq ou oz oC z193 z194 oD z196 oG z198 oH oI z201 oJ z203 oK oL z206 oM z208 oN z210 oO z212 z213 oP oQ oU oV z218 oW oZ o7 z222 o8 pq pz z226 z227 z228 z229 pF pG z232 z233 z234 pI z236 pJ pK pO pR pU pV pW pX pY qc qg qh qj ql qm qo qp qw qx qy qA qB qC qE qF qG qH qI qJ qK qL qM qN qO qP qQ:Value) (W:World),(z1=ptr w.heap.size∧z2=ptr (w.heap.size+1)∧z3=ptr (w.heap.size+2)∧Ag w W)→(eG 9).wp Tryz.prog (bodyPost Tryz.prog Tryz.f17 (fun e w'=>e= .returned (.bool true)∧Below w.heap.size w w')) {tmps:= #[z0,z1,z2,z3,z4,z5,z6,z7,z8,z9,z10,z11,z12,z13,kD,kK,kF,z17,kL,jQ,z20,z21,z22,z23,z24,z25,z26,z27,z28,z29,z30,z31,z32,z33,z34,z35,z36,z37,z38,z39,z40,z41,z42,z43,z44,z45,z46,z47,z48,z49,z50,z51,z52,z53,z54,z55,z56,z57,z58,z59,z60,z61,z62,z63,z64,z65,z66,z67,z68,z69,z70,z71,z72,z73,z74,z75,z76,z77,z78,z79,z80,mM,z82,z83,z84,z85,z86,z87,mO,z89,mP,z91,mQ,z93,mV,mW,mX,mY,mZ,ng,eU,eX,eY,fA,fB,z105,fC,z107,fD,z109,fF,fG,fH,fJ,fK,fM,z116,z117,fO,z119,fP,fQ,fU,fV,z124,fZ,gq,z127,gu,gy,z130,z131,gB,gG,gI,gJ,gK,gQ,z138,z139,gU,z141,gV,z143,gW,z145,z146,gZ,z148,ig,iq,iw,z152,iy,z154,iC,z156,z157,iD,z159,z160,iE,z162,iF,z164,iG,iH,z167,z168,nK,nM,z171,nN,z173,nO,z175,nP,nR,nS,nT,nU,nV,z182,z183,nX,nY,nZ,og,oh,oq,ou,oz,oC,z193,z194,oD,z196,oG,z198,oH,oI,z201,oJ,z203,oK,oL,z206,oM,z208,oN,z210,oO,z212,z213,oP,oQ,oU,oV,z218,oW,oZ,o7,z222,o8,pq,pz,z226,z227,z228,z229,pF,pG,z232,z233,z234,pI,z236,pJ,pK,pO,pR,pU,pV,pW,pX,pY,qc,qg,qh,qj,ql,qm,qo,qp,qw,qx,qy,qA,qB,qC,qE,qF,qG,qH,qI,qJ,qK,qL,qM,qN,qO,qP,qQ],defers:=[] } W
@[reducible] def OQ (w:World):Prop:=∀ (z0 z1 z2 z3 z4 z5 z6 z7 z8 z9 z10 z11 z12 z13 kD kK kF z17 kL jQ z20 z21 z22 z23 z24 z25 z26 z27 z28 z29 z30 z31 z32 z33 z34 z35 z36 z37 z38 z39 z40 z41 z42 z43 z44 z45 z46 z47 z48 z49 z50 z51 z52 z53 z54 z55 z56 z57 z58 z59 z60 z61 z62 z63 z64 z65 z66 z67 z68 z69 z70 z71 z72 z73 z74 z75 z76 z77 z78 z79 z80 mM z82 z83 z84 z85 z86 z87 mO z89 mP z91 mQ z93 mV mW mX mY mZ ng eU eX eY fA fB z105 fC z107 fD z109 fF fG fH fJ fK fM z116 z117 fO z119 fP fQ fU fV z124 fZ gq z127 gu gy z130 z131 gB gG gI gJ gK gQ z138 z139 gU z141 gV z143 gW z145 z146 gZ z148 ig iq iw z152 iy z154 iC z156 z157 iD z159 z160 iE z162 iF z164 iG iH z167 z168 nK nM z171 nN z173 nO z175 nP nR nS nT nU nV z182 z183 nX nY nZ og oh oq ou oz oC z193 z194 oD z196 oG z198 oH oI z201 oJ z203 oK oL z206 oM z208 oN z210 oO z212 z213 oP oQ oU oV z218 oW oZ o7 z222 o8 pq pz z226 z227 z228 z229 pF pG z232 z233 z234 pI z236 pJ pK pO pR pU pV pW pX pY qc qg qh qj ql qm qo qp qw qx qy qA qB qC qE qF qG qH qI qJ qK qL qM qN qO qP qQ:Value) (W:World),(z1=ptr w.heap.size∧z2=ptr (w.heap.size+1)∧z3=ptr (w.heap.size+2)∧Ag w W∧EK M.uH (w.heap.size+3) W z17∧jQ= .int .i64 0)→(eG 10).wp Tryz.prog (bodyPost Tryz.prog Tryz.f17 (fun e w'=>e= .returned (.bool true)∧Below w.heap.size w w')) {tmps:= #[z0,z1,z2,z3,z4,z5,z6,z7,z8,z9,z10,z11,z12,z13,kD,kK,kF,z17,kL,jQ,z20,z21,z22,z23,z24,z25,z26,z27,z28,z29,z30,z31,z32,z33,z34,z35,z36,z37,z38,z39,z40,z41,z42,z43,z44,z45,z46,z47,z48,z49,z50,z51,z52,z53,z54,z55,z56,z57,z58,z59,z60,z61,z62,z63,z64,z65,z66,z67,z68,z69,z70,z71,z72,z73,z74,z75,z76,z77,z78,z79,z80,mM,z82,z83,z84,z85,z86,z87,mO,z89,mP,z91,mQ,z93,mV,mW,mX,mY,mZ,ng,eU,eX,eY,fA,fB,z105,fC,z107,fD,z109,fF,fG,fH,fJ,fK,fM,z116,z117,fO,z119,fP,fQ,fU,fV,z124,fZ,gq,z127,gu,gy,z130,z131,gB,gG,gI,gJ,gK,gQ,z138,z139,gU,z141,gV,z143,gW,z145,z146,gZ,z148,ig,iq,iw,z152,iy,z154,iC,z156,z157,iD,z159,z160,iE,z162,iF,z164,iG,iH,z167,z168,nK,nM,z171,nN,z173,nO,z175,nP,nR,nS,nT,nU,nV,z182,z183,nX,nY,nZ,og,oh,oq,ou,oz,oC,z193,z194,oD,z196,oG,z198,oH,oI,z201,oJ,z203,oK,oL,z206,oM,z208,oN,z210,oO,z212,z213,oP,oQ,oU,oV,z218,oW,oZ,o7,z222,o8,pq,pz,z226,z227,z228,z229,pF,pG,z232,z233,z234,pI,z236,pJ,pK,pO,pR,pU,pV,pW,pX,pY,qc,qg,qh,qj,ql,qm,qo,qp,qw,qx,qy,qA,qB,qC,qE,qF,qG,qH,qI,qJ,qK,qL,qM,qN,qO,qP,qQ],defers:=[] } W
@[reducible] def OT (w:World):Prop:=∀ (z0 z1 z2 z3 z4 z5 z6 z7 z8 z9 z10 z11 z12 z13 kD kK kF z17 kL jQ z20 z21 z22 z23 z24 z25 z26 z27 z28 z29 z30 z31 z32 z33 z34 z35 z36 z37 z38 z39 z40 z41 z42 z43 z44 z45 z46 z47 z48 z49 z50 z51 z52 z53 z54 z55 z56 z57 z58 z59 z60 z61 z62 z63 z64 z65 z66 z67 z68 z69 z70 z71 z72 z73 z74 z75 z76 z77 z78 z79 z80 mM z82 z83 z84 z85 z86 z87 mO z89 mP z91 mQ z93 mV mW mX mY mZ ng eU eX eY fA fB z105 fC z107 fD z109 fF fG fH fJ fK fM z116 z117 fO z119 fP fQ fU fV z124 fZ gq z127 gu gy z130 z131 gB gG gI gJ gK gQ z138 z139 gU z141 gV z143 gW z145 z146 gZ z148 ig iq iw z152 iy z154 iC z156 z157 iD z159 z160 iE z162 iF z164 iG iH z167 z168 nK nM z171 nN z173 nO z175 nP nR nS nT nU nV z182 z183 nX nY nZ og oh oq ou oz oC z193 z194 oD z196 oG z198 oH oI z201 oJ z203 oK oL z206 oM z208 oN z210 oO z212 z213 oP oQ oU oV z218 oW oZ o7 z222 o8 pq pz z226 z227 z228 z229 pF pG z232 z233 z234 pI z236 pJ pK pO pR pU pV pW pX pY qc qg qh qj ql qm qo qp qw qx qy qA qB qC qE qF qG qH qI qJ qK qL qM qN qO qP qQ:Value) (W:World),(z1=ptr w.heap.size∧z2=ptr (w.heap.size+1)∧z3=ptr (w.heap.size+2)∧Ag w W∧EK M.uH (w.heap.size+3) W z17∧jQ= .int .i64 0∧EK M.vG (w.heap.size+3) W z20∧z22= .int .i64 0)→(eG 11).wp Tryz.prog (bodyPost Tryz.prog Tryz.f17 (fun e w'=>e= .returned (.bool true)∧Below w.heap.size w w')) {tmps:= #[z0,z1,z2,z3,z4,z5,z6,z7,z8,z9,z10,z11,z12,z13,kD,kK,kF,z17,kL,jQ,z20,z21,z22,z23,z24,z25,z26,z27,z28,z29,z30,z31,z32,z33,z34,z35,z36,z37,z38,z39,z40,z41,z42,z43,z44,z45,z46,z47,z48,z49,z50,z51,z52,z53,z54,z55,z56,z57,z58,z59,z60,z61,z62,z63,z64,z65,z66,z67,z68,z69,z70,z71,z72,z73,z74,z75,z76,z77,z78,z79,z80,mM,z82,z83,z84,z85,z86,z87,mO,z89,mP,z91,mQ,z93,mV,mW,mX,mY,mZ,ng,eU,eX,eY,fA,fB,z105,fC,z107,fD,z109,fF,fG,fH,fJ,fK,fM,z116,z117,fO,z119,fP,fQ,fU,fV,z124,fZ,gq,z127,gu,gy,z130,z131,gB,gG,gI,gJ,gK,gQ,z138,z139,gU,z141,gV,z143,gW,z145,z146,gZ,z148,ig,iq,iw,z152,iy,z154,iC,z156,z157,iD,z159,z160,iE,z162,iF,z164,iG,iH,z167,z168,nK,nM,z171,nN,z173,nO,z175,nP,nR,nS,nT,nU,nV,z182,z183,nX,nY,nZ,og,oh,oq,ou,oz,oC,z193,z194,oD,z196,oG,z198,oH,oI,z201,oJ,z203,oK,oL,z206,oM,z208,oN,z210,oO,z212,z213,oP,oQ,oU,oV,z218,oW,oZ,o7,z222,o8,pq,pz,z226,z227,z228,z229,pF,pG,z232,z233,z234,pI,z236,pJ,pK,pO,pR,pU,pV,pW,pX,pY,qc,qg,qh,qj,ql,qm,qo,qp,qw,qx,qy,qA,qB,qC,qE,qF,qG,qH,qI,qJ,qK,qL,qM,qN,qO,qP,qQ],defers:=[] } W
@[reducible] def OU (w:World):Prop:=∀ (z0 z1 z2 z3 z4 z5 z6 z7 z8 z9 z10 z11 z12 z13 kD kK kF z17 kL jQ z20 z21 z22 z23 z24 z25 z26 z27 z28 z29 z30 z31 z32 z33 z34 z35 z36 z37 z38 z39 z40 z41 z42 z43 z44 z45 z46 z47 z48 z49 z50 z51 z52 z53 z54 z55 z56 z57 z58 z59 z60 z61 z62 z63 z64 z65 z66 z67 z68 z69 z70 z71 z72 z73 z74 z75 z76 z77 z78 z79 z80 mM z82 z83 z84 z85 z86 z87 mO z89 mP z91 mQ z93 mV mW mX mY mZ ng eU eX eY fA fB z105 fC z107 fD z109 fF fG fH fJ fK fM z116 z117 fO z119 fP fQ fU fV z124 fZ gq z127 gu gy z130 z131 gB gG gI gJ gK gQ z138 z139 gU z141 gV z143 gW z145 z146 gZ z148 ig iq iw z152 iy z154 iC z156 z157 iD z159 z160 iE z162 iF z164 iG iH z167 z168 nK nM z171 nN z173 nO z175 nP nR nS nT nU nV z182 z183 nX nY nZ og oh oq ou oz oC z193 z194 oD z196 oG z198 oH oI z201 oJ z203 oK oL z206 oM z208 oN z210 oO z212 z213 oP oQ oU oV z218 oW oZ o7 z222 o8 pq pz z226 z227 z228 z229 pF pG z232 z233 z234 pI z236 pJ pK pO pR pU pV pW pX pY qc qg qh qj ql qm qo qp qw qx qy qA qB qC qE qF qG qH qI qJ qK qL qM qN qO qP qQ:Value) (W:World),(z1=ptr w.heap.size∧z2=ptr (w.heap.size+1)∧z3=ptr (w.heap.size+2)∧Ag w W∧EK M.uH (w.heap.size+3) W z17∧jQ= .int .i64 0∧EK M.vG (w.heap.size+3) W z20∧z22= .int .i64 0∧EK M.vP (w.heap.size+3) W z23∧Gp 2 1 (jU [⟨3,2⟩]) (w.heap.size+3) W z24∧z25= .int .i64 0)→(eG 12).wp Tryz.prog (bodyPost Tryz.prog Tryz.f17 (fun e w'=>e= .returned (.bool true)∧Below w.heap.size w w')) {tmps:= #[z0,z1,z2,z3,z4,z5,z6,z7,z8,z9,z10,z11,z12,z13,kD,kK,kF,z17,kL,jQ,z20,z21,z22,z23,z24,z25,z26,z27,z28,z29,z30,z31,z32,z33,z34,z35,z36,z37,z38,z39,z40,z41,z42,z43,z44,z45,z46,z47,z48,z49,z50,z51,z52,z53,z54,z55,z56,z57,z58,z59,z60,z61,z62,z63,z64,z65,z66,z67,z68,z69,z70,z71,z72,z73,z74,z75,z76,z77,z78,z79,z80,mM,z82,z83,z84,z85,z86,z87,mO,z89,mP,z91,mQ,z93,mV,mW,mX,mY,mZ,ng,eU,eX,eY,fA,fB,z105,fC,z107,fD,z109,fF,fG,fH,fJ,fK,fM,z116,z117,fO,z119,fP,fQ,fU,fV,z124,fZ,gq,z127,gu,gy,z130,z131,gB,gG,gI,gJ,gK,gQ,z138,z139,gU,z141,gV,z143,gW,z145,z146,gZ,z148,ig,iq,iw,z152,iy,z154,iC,z156,z157,iD,z159,z160,iE,z162,iF,z164,iG,iH,z167,z168,nK,nM,z171,nN,z173,nO,z175,nP,nR,nS,nT,nU,nV,z182,z183,nX,nY,nZ,og,oh,oq,ou,oz,oC,z193,z194,oD,z196,oG,z198,oH,oI,z201,oJ,z203,oK,oL,z206,oM,z208,oN,z210,oO,z212,z213,oP,oQ,oU,oV,z218,oW,oZ,o7,z222,o8,pq,pz,z226,z227,z228,z229,pF,pG,z232,z233,z234,pI,z236,pJ,pK,pO,pR,pU,pV,pW,pX,pY,qc,qg,qh,qj,ql,qm,qo,qp,qw,qx,qy,qA,qB,qC,qE,qF,qG,qH,qI,qJ,qK,qL,qM,qN,qO,qP,qQ],defers:=[] } W
@[reducible] def OV (w:World):Prop:=∀ (z0 z1 z2 z3 z4 z5 z6 z7 z8 z9 z10 z11 z12 z13 kD kK kF z17 kL jQ z20 z21 z22 z23 z24 z25 z26 z27 z28 z29 z30 z31 z32 z33 z34 z35 z36 z37 z38 z39 z40 z41 z42 z43 z44 z45 z46 z47 z48 z49 z50 z51 z52 z53 z54 z55 z56 z57 z58 z59 z60 z61 z62 z63 z64 z65 z66 z67 z68 z69 z70 z71 z72 z73 z74 z75 z76 z77 z78 z79 z80 mM z82 z83 z84 z85 z86 z87 mO z89 mP z91 mQ z93 mV mW mX mY mZ ng eU eX eY fA fB z105 fC z107 fD z109 fF fG fH fJ fK fM z116 z117 fO z119 fP fQ fU fV z124 fZ gq z127 gu gy z130 z131 gB gG gI gJ gK gQ z138 z139 gU z141 gV z143 gW z145 z146 gZ z148 ig iq iw z152 iy z154 iC z156 z157 iD z159 z160 iE z162 iF z164 iG iH z167 z168 nK nM z171 nN z173 nO z175 nP nR nS nT nU nV z182 z183 nX nY nZ og oh oq ou oz oC z193 z194 oD z196 oG z198 oH oI z201 oJ z203 oK oL z206 oM z208 oN z210 oO z212 z213 oP oQ oU oV z218 oW oZ o7 z222 o8 pq pz z226 z227 z228 z229 pF pG z232 z233 z234 pI z236 pJ pK pO pR pU pV pW pX pY qc qg qh qj ql qm qo qp qw qx qy qA qB qC qE qF qG qH qI qJ qK qL qM qN qO qP qQ:Value) (W:World),(z1=ptr w.heap.size∧z2=ptr (w.heap.size+1)∧z3=ptr (w.heap.size+2)∧Ag w W∧EK M.uH (w.heap.size+3) W z17∧jQ= .int .i64 0∧EK M.vG (w.heap.size+3) W z20∧z22= .int .i64 0∧EK M.vP (w.heap.size+3) W z23∧Gp 2 1 (jU [⟨3,2⟩]) (w.heap.size+3) W z24∧z25= .int .i64 0∧QT (w.heap.size+3) W z26∧z27= .int .i64 3∧z28= .int .i64 25)→(eG 13).wp Tryz.prog (bodyPost Tryz.prog Tryz.f17 (fun e w'=>e= .returned (.bool true)∧Below w.heap.size w w')) {tmps:= #[z0,z1,z2,z3,z4,z5,z6,z7,z8,z9,z10,z11,z12,z13,kD,kK,kF,z17,kL,jQ,z20,z21,z22,z23,z24,z25,z26,z27,z28,z29,z30,z31,z32,z33,z34,z35,z36,z37,z38,z39,z40,z41,z42,z43,z44,z45,z46,z47,z48,z49,z50,z51,z52,z53,z54,z55,z56,z57,z58,z59,z60,z61,z62,z63,z64,z65,z66,z67,z68,z69,z70,z71,z72,z73,z74,z75,z76,z77,z78,z79,z80,mM,z82,z83,z84,z85,z86,z87,mO,z89,mP,z91,mQ,z93,mV,mW,mX,mY,mZ,ng,eU,eX,eY,fA,fB,z105,fC,z107,fD,z109,fF,fG,fH,fJ,fK,fM,z116,z117,fO,z119,fP,fQ,fU,fV,z124,fZ,gq,z127,gu,gy,z130,z131,gB,gG,gI,gJ,gK,gQ,z138,z139,gU,z141,gV,z143,gW,z145,z146,gZ,z148,ig,iq,iw,z152,iy,z154,iC,z156,z157,iD,z159,z160,iE,z162,iF,z164,iG,iH,z167,z168,nK,nM,z171,nN,z173,nO,z175,nP,nR,nS,nT,nU,nV,z182,z183,nX,nY,nZ,og,oh,oq,ou,oz,oC,z193,z194,oD,z196,oG,z198,oH,oI,z201,oJ,z203,oK,oL,z206,oM,z208,oN,z210,oO,z212,z213,oP,oQ,oU,oV,z218,oW,oZ,o7,z222,o8,pq,pz,z226,z227,z228,z229,pF,pG,z232,z233,z234,pI,z236,pJ,pK,pO,pR,pU,pV,pW,pX,pY,qc,qg,qh,qj,ql,qm,qo,qp,qw,qx,qy,qA,qB,qC,qE,qF,qG,qH,qI,qJ,qK,qL,qM,qN,qO,qP,qQ],defers:=[] } W
@[reducible] def OW (w:World):Prop:=∀ (z0 z1 z2 z3 z4 z5 z6 z7 z8 z9 z10 z11 z12 z13 kD kK kF z17 kL jQ z20 z21 z22 z23 z24 z25 z26 z27 z28 z29 z30 z31 z32 z33 z34 z35 z36 z37 z38 z39 z40 z41 z42 z43 z44 z45 z46 z47 z48 z49 z50 z51 z52 z53 z54 z55 z56 z57 z58 z59 z60 z61 z62 z63 z64 z65 z66 z67 z68 z69 z70 z71 z72 z73 z74 z75 z76 z77 z78 z79 z80 mM z82 z83 z84 z85 z86 z87 mO z89 mP z91 mQ z93 mV mW mX mY mZ ng eU eX eY fA fB z105 fC z107 fD z109 fF fG fH fJ fK fM z116 z117 fO z119 fP fQ fU fV z124 fZ gq z127 gu gy z130 z131 gB gG gI gJ gK gQ z138 z139 gU z141 gV z143 gW z145 z146 gZ z148 ig iq iw z152 iy z154 iC z156 z157 iD z159 z160 iE z162 iF z164 iG iH z167 z168 nK nM z171 nN z173 nO z175 nP nR nS nT nU nV z182 z183 nX nY nZ og oh oq ou oz oC z193 z194 oD z196 oG z198 oH oI z201 oJ z203 oK oL z206 oM z208 oN z210 oO z212 z213 oP oQ oU oV z218 oW oZ o7 z222 o8 pq pz z226 z227 z228 z229 pF pG z232 z233 z234 pI z236 pJ pK pO pR pU pV pW pX pY qc qg qh qj ql qm qo qp qw qx qy qA qB qC qE qF qG qH qI qJ qK qL qM qN qO qP qQ:Value) (W:World),(z1=ptr w.heap.size∧z2=ptr (w.heap.size+1)∧z3=ptr (w.heap.size+2)∧Ag w W∧EK M.uH (w.heap.size+3) W z17∧jQ= .int .i64 0∧EK M.vG (w.heap.size+3) W z20∧z22= .int .i64 0∧EK M.vP (w.heap.size+3) W z23∧Gp 2 1 (jU [⟨3,2⟩]) (w.heap.size+3) W z24∧z25= .int .i64 0∧QT (w.heap.size+3) W z26∧z27= .int .i64 3∧z28= .int .i64 25∧z29= .string ⟨#[98,32,112,108,97,121,32,99,53,47,50,32,102,53,32,43,32,112,53,47,50,32,112,48,47,51]⟩∧z30= .int .i64 0)→(eG 14).wp Tryz.prog (bodyPost Tryz.prog Tryz.f17 (fun e w'=>e= .returned (.bool true)∧Below w.heap.size w w')) {tmps:= #[z0,z1,z2,z3,z4,z5,z6,z7,z8,z9,z10,z11,z12,z13,kD,kK,kF,z17,kL,jQ,z20,z21,z22,z23,z24,z25,z26,z27,z28,z29,z30,z31,z32,z33,z34,z35,z36,z37,z38,z39,z40,z41,z42,z43,z44,z45,z46,z47,z48,z49,z50,z51,z52,z53,z54,z55,z56,z57,z58,z59,z60,z61,z62,z63,z64,z65,z66,z67,z68,z69,z70,z71,z72,z73,z74,z75,z76,z77,z78,z79,z80,mM,z82,z83,z84,z85,z86,z87,mO,z89,mP,z91,mQ,z93,mV,mW,mX,mY,mZ,ng,eU,eX,eY,fA,fB,z105,fC,z107,fD,z109,fF,fG,fH,fJ,fK,fM,z116,z117,fO,z119,fP,fQ,fU,fV,z124,fZ,gq,z127,gu,gy,z130,z131,gB,gG,gI,gJ,gK,gQ,z138,z139,gU,z141,gV,z143,gW,z145,z146,gZ,z148,ig,iq,iw,z152,iy,z154,iC,z156,z157,iD,z159,z160,iE,z162,iF,z164,iG,iH,z167,z168,nK,nM,z171,nN,z173,nO,z175,nP,nR,nS,nT,nU,nV,z182,z183,nX,nY,nZ,og,oh,oq,ou,oz,oC,z193,z194,oD,z196,oG,z198,oH,oI,z201,oJ,z203,oK,oL,z206,oM,z208,oN,z210,oO,z212,z213,oP,oQ,oU,oV,z218,oW,oZ,o7,z222,o8,pq,pz,z226,z227,z228,z229,pF,pG,z232,z233,z234,pI,z236,pJ,pK,pO,pR,pU,pV,pW,pX,pY,qc,qg,qh,qj,ql,qm,qo,qp,qw,qx,qy,qA,qB,qC,qE,qF,qG,qH,qI,qJ,qK,qL,qM,qN,qO,qP,qQ],defers:=[] } W
theorem ownsRow_base {W:World} {D D' e size n:Nat} {v:Value} {xs:List Value} (h:W.ownsRow D e size v n xs) (hd:D'≤D):W.ownsRow D' e size v n xs:=by
 obtain ⟨h1,h2⟩:=h
 refine ⟨h1,?_⟩
 rcases h2 with h2 | ⟨g,cap,cur,hv,hg,r⟩
 · exact Or.inl h2
 · exact Or.inr ⟨g,cap,cur,hv,Nat.le_trans hd hg,r⟩
theorem UK (w:World) (HG:Hid (Glob w)) (HN:Hid (QU w)):Us w:=by
 intro _ _ _ _ _ _ _ _ _ _ _ _ _ _ _ _ _ _ _ _ _ _ _ _ _ _ _ _ _ _ _ _ _ _ _ _ _ _ _ _ _ _ _ _ _ _ _ _ _ _ _ _ _ _ _ _ _ _ _ _ _ _ _ _ _ _ _ _ _ _ _ _ _ _ _ _ _ _ _ _ _ _ _ _ _ _ _ _ _ _ _ _ _ _ _ _ _ _ _ _ _ _ _ _ _ _ _ _ _ _ _ _ _ _ _ _ _ _ _ _ _ _ _ _ _ _ _ _ _ _ _ _ _ _ _ _ _ _ _ _ _ _ _ _ _ _ _ _ _ _ _ _ _ _ _ _ _ _ _ _ _ _ _ _ _ _ _ _ _ _ _ _ _ _ _ _ _ _ _ _ _ _ _ _ _ _ _ _ _ _ _ _ _ _ _ _ _ _ _ _ _ _ _ _ _ _ _ _ _ _ _ _ _ _ _ _ _ _ _ _ _ _ _ _ _ _ _ _ _ _ _ _ _ _ _ _ _ _ _ _ _ _ _ _ _ _ _ _ _ _ _ _ _ _ _ _ _ _ _ _ _ _ _ _ _ _ _ _ _ _ _ _ _ W hf
 dsimp only [eG,dQ,Tryz.f17,Option.getD]
 obtain ⟨rfl,rfl,rfl,hR⟩:=hf
 apply wp_seq_k
 intro K hK
 have HK:=hide hK
 clear hK
 go_wp2_with (first | (go_at_call 62;refine (JU M.O1 M.BN 3 _ M.NU rfl rfl (by omega) (by decide) W _).mono ?_;rintro e w1 ⟨l,A,c,hl,rfl,hr,hb⟩;dsimp only))
 have hs:=hR.sz
 have hown:=hr.own
 rw [hl.2] at hown
 have hlt:=fun g (hg:(Value.slice A 3 c).ownBlock=some g)=>(Array.getElem?_eq_some_iff.1 (bg hown hg).2.choose_spec.1).1
 refine HK.out _ _ ?_
 apply HN.out w1.heap.size
 exact ⟨rfl,rfl,rfl,hR.below hb,Nat.le_trans hs hb.size,Nat.le_refl _,A,c,l,rfl,hl,⟨ownsRow_base hr.own (by omega),fun y hy=>Reads.more (hr.each y hy) (fun b _ h=>⟨by omega,h.2⟩)⟩,hlt⟩
theorem UL (w:World) (HG:Hid (Glob w)) (HN:Hid (QV w)):QU w:=by
 intro D _ _ _ _ _ _ _ _ _ _ _ _ _ _ _ _ _ _ _ _ _ _ _ _ _ _ _ _ _ _ _ _ _ _ _ _ _ _ _ _ _ _ _ _ _ _ _ _ _ _ _ _ _ _ _ _ _ _ _ _ _ _ _ _ _ _ _ _ _ _ _ _ _ _ _ _ _ _ _ _ _ _ _ _ _ _ _ _ _ _ _ _ _ _ _ _ _ _ _ _ _ _ _ _ _ _ _ _ _ _ _ _ _ _ _ _ _ _ _ _ _ _ _ _ _ _ _ _ _ _ _ _ _ _ _ _ _ _ _ _ _ _ _ _ _ _ _ _ _ _ _ _ _ _ _ _ _ _ _ _ _ _ _ _ _ _ _ _ _ _ _ _ _ _ _ _ _ _ _ _ _ _ _ _ _ _ _ _ _ _ _ _ _ _ _ _ _ _ _ _ _ _ _ _ _ _ _ _ _ _ _ _ _ _ _ _ _ _ _ _ _ _ _ _ _ _ _ _ _ _ _ _ _ _ _ _ _ _ _ _ _ _ _ _ _ _ _ _ _ _ _ _ _ _ _ _ _ _ _ _ _ _ _ _ _ _ _ _ _ _ _ _ _ _ hf
 dsimp only [eG,dQ,Tryz.f17,Option.getD]
 obtain ⟨rfl,rfl,rfl,hR,hD,kT,hL⟩:=hf
 obtain ⟨A4,c4,l4,rfl,hl,hr4,hg4⟩:=id hL
 have hrd:=hr4.read (by rw [hl.2];omega)
 have Wv:=jX M.xg [] M.bV.1 M.dn.1 M.He (by rfl) hl hrd
 have Xb:=hide Wv
 clear Wv
 apply wp_seq_k
 intro K hK
 have HK:=hide hK
 clear hK
 go_wp2_with (first | (refine aN 23 (.tmp 1) rfl ?_;refine aG (hR.e) Tryz.underlying23 rfl kV rfl (.tmp 1) rfl rfl ?_) | (go_at_call 18;refine Xb.out.mono ?_;rintro e w1 ⟨A1,c1,A2,c2,rfl,hr1,_,hb1⟩;have hbx:=Held.new w1 aj 33;dsimp only) | (refine aO 33 (.tmp 5) (.tmp 40) rfl ?_;refine aF (hbx) (aW M.xg A1 c1) rfl bW (dL _ _ _) rfl (.tmp 5) (.tmp 40) rfl rfl rfl ?_))
 obtain ⟨hS,hb⟩:=Gq.new (D:=D) (hb1.mono (Nat.le_refl _)) kT hr1 hbx
 have hbb:=hb1.trans (hb.mono hb1.size)
 refine HK.out _ _ ?_
 apply HN.out D
 exact ⟨rfl,rfl,rfl,hR.below hbb,hD,Nat.le_trans kT hbb.size,hL.below hbb,hS,rfl⟩
theorem UM (w:World) (HG:Hid (Glob w)) (HN:Hid (QW w)):QV w:=by
 intro D _ _ _ _ _ _ _ _ _ _ _ _ _ _ _ _ _ _ _ _ _ _ _ _ _ _ _ _ _ _ _ _ _ _ _ _ _ _ _ _ _ _ _ _ _ _ _ _ _ _ _ _ _ _ _ _ _ _ _ _ _ _ _ _ _ _ _ _ _ _ _ _ _ _ _ _ _ _ _ _ _ _ _ _ _ _ _ _ _ _ _ _ _ _ _ _ _ _ _ _ _ _ _ _ _ _ _ _ _ _ _ _ _ _ _ _ _ _ _ _ _ _ _ _ _ _ _ _ _ _ _ _ _ _ _ _ _ _ _ _ _ _ _ _ _ _ _ _ _ _ _ _ _ _ _ _ _ _ _ _ _ _ _ _ _ _ _ _ _ _ _ _ _ _ _ _ _ _ _ _ _ _ _ _ _ _ _ _ _ _ _ _ _ _ _ _ _ _ _ _ _ _ _ _ _ _ _ _ _ _ _ _ _ _ _ _ _ _ _ _ _ _ _ _ _ _ _ _ _ _ _ _ _ _ _ _ _ _ _ _ _ _ _ _ _ _ _ _ _ _ _ _ _ _ _ _ _ _ _ _ _ _ _ _ _ _ _ _ _ _ _ _ _ W hf
 dsimp only [eG,dQ,Tryz.f17,Option.getD]
 obtain ⟨rfl,rfl,rfl,hR,hD,kT,hL,hf⟩:=hf
 obtain ⟨h5,rfl⟩:=hf
 obtain ⟨B5,A5,c5,rfl,hD5,NM,SC⟩:=id h5
 have hcl:=DC _ A5 c5 W SC
 have JF:=hide hcl
 clear hcl
 apply wp_seq_k
 intro K hK
 have HK:=hide hK
 clear hK
 go_wp2_with (first | (refine aN 23 (.tmp 1) rfl ?_;refine aG (hR.e) Tryz.underlying23 rfl kV rfl (.tmp 1) rfl rfl ?_) | (refine aN 33 (.tmp 5) rfl ?_;refine aG (NM) Tryz.underlying33 rfl bW rfl (.tmp 5) rfl rfl ?_) | (go_at_call 48;refine JF.out.mono ?_;rintro e w1 ⟨A1,c1,rfl,hr1,hb1⟩;dsimp only))
 refine HK.out _ _ ?_
 apply HN.out D
 exact ⟨rfl,rfl,rfl,hR.below hb1,hD,Nat.le_trans kT hb1.size,hL.below hb1,h5.below hb1,rfl,⟨A1,c1,rfl,hr1.more (fun b _ h=>Nat.le_trans kT h)⟩,rfl⟩
theorem UN (w:World) (HG:Hid (Glob w)) (HN:Hid (QX w)):QW w:=by
 intro D _ _ _ _ _ _ _ _ _ _ _ _ _ _ _ _ _ _ _ _ _ _ _ _ _ _ _ _ _ _ _ _ _ _ _ _ _ _ _ _ _ _ _ _ _ _ _ _ _ _ _ _ _ _ _ _ _ _ _ _ _ _ _ _ _ _ _ _ _ _ _ _ _ _ _ _ _ _ _ _ _ _ _ _ _ _ _ _ _ _ _ _ _ _ _ _ _ _ _ _ _ _ _ _ _ _ _ _ _ _ _ _ _ _ _ _ _ _ _ _ _ _ _ _ _ _ _ _ _ _ _ _ _ _ _ _ _ _ _ _ _ _ _ _ _ _ _ _ _ _ _ _ _ _ _ _ _ _ _ _ _ _ _ _ _ _ _ _ _ _ _ _ _ _ _ _ _ _ _ _ _ _ _ _ _ _ _ _ _ _ _ _ _ _ _ _ _ _ _ _ _ _ _ _ _ _ _ _ _ _ _ _ _ _ _ _ _ _ _ _ _ _ _ _ _ _ _ _ _ _ _ _ _ _ _ _ _ _ _ _ _ _ _ _ _ _ _ _ _ _ _ _ _ _ _ _ _ _ _ _ _ _ _ _ _ _ _ _ _ _ _ _ _ _ hf
 dsimp only [eG,dQ,Tryz.f17,Option.getD]
 obtain ⟨rfl,rfl,rfl,hR,hD,kT,hL,hf⟩:=hf
 obtain ⟨h5,rfl,h8,rfl⟩:=hf
 obtain ⟨A4,c4,l4,rfl,hl,hr4,hg4⟩:=id hL
 have hrd:=hr4.read (by rw [hl.2];omega)
 have hcl:=yT _ M.bV.1 M.dn.1 M.yT hl hrd
 have JF:=hide hcl
 clear hcl
 apply wp_seq_k
 intro K hK
 have HK:=hide hK
 clear hK
 go_wp2_with (first | (refine aN 23 (.tmp 1) rfl ?_;refine aG (hR.e) Tryz.underlying23 rfl kV rfl (.tmp 1) rfl rfl ?_) | (go_at_call 19;refine JF.out.mono ?_;rintro e w1 ⟨A1,c1,rfl,hr1,hb1⟩;dsimp only))
 refine HK.out _ _ ?_
 apply HN.out D
 exact ⟨rfl,rfl,rfl,hR.below hb1,hD,Nat.le_trans kT hb1.size,hL.below hb1,h5.below hb1,rfl,h8.below hb1,rfl,⟨A1,c1,rfl,Reads.more hr1 (fun b _ h=>Nat.le_trans kT h)⟩,rfl⟩
theorem UO (w:World) (HG:Hid (Glob w)) (HN:Hid (QY w)):QX w:=by
 intro D _ _ _ _ _ _ _ _ _ _ _ _ _ _ _ _ _ _ _ _ _ _ _ _ _ _ _ _ _ _ _ _ _ _ _ _ _ _ _ _ _ _ _ _ _ _ _ _ _ _ _ _ _ _ _ _ _ _ _ _ _ _ _ _ _ _ _ _ _ _ _ _ _ _ _ _ _ _ _ _ _ _ _ _ _ _ _ _ _ _ _ _ _ _ _ _ _ _ _ _ _ _ _ _ _ _ _ _ _ _ _ _ _ _ _ _ _ _ _ _ _ _ _ _ _ _ _ _ _ _ _ _ _ _ _ _ _ _ _ _ _ _ _ _ _ _ _ _ _ _ _ _ _ _ _ _ _ _ _ _ _ _ _ _ _ _ _ _ _ _ _ _ _ _ _ _ _ _ _ _ _ _ _ _ _ _ _ _ _ _ _ _ _ _ _ _ _ _ _ _ _ _ _ _ _ _ _ _ _ _ _ _ _ _ _ _ _ _ _ _ _ _ _ _ _ _ _ _ _ _ _ _ _ _ _ _ _ _ _ _ _ _ _ _ _ _ _ _ _ _ _ _ _ _ _ _ _ _ _ _ _ _ _ _ _ _ _ _ _ _ _ _ _ _ hf
 dsimp only [eG,dQ,Tryz.f17,Option.getD]
 obtain ⟨rfl,rfl,rfl,hR,hD,kT,hL,hf⟩:=hf
 obtain ⟨h5,rfl,h8,rfl,h10,rfl⟩:=hf
 obtain ⟨A4,c4,l4,rfl,hl,hr4,hg4⟩:=id hL
 have hrd:=hr4.read (by rw [hl.2];omega)
 have hcl:=JW _ M.bV.1 M.dn.1 M.NW hl hrd
 have JF:=hide hcl
 clear hcl
 apply wp_seq_k
 intro K hK
 have HK:=hide hK
 clear hK
 go_wp2_with (first | (refine aN 23 (.tmp 1) rfl ?_;refine aG (hR.e) Tryz.underlying23 rfl kV rfl (.tmp 1) rfl rfl ?_) | (go_at_call 24;refine JF.out.mono ?_;rintro e w1 ⟨A1,c1,rfl,hr1,hb1⟩;dsimp only))
 refine HK.out _ _ ?_
 apply HN.out D
 exact ⟨rfl,rfl,rfl,hR.below hb1,hD,Nat.le_trans kT hb1.size,hL.below hb1,h5.below hb1,rfl,h8.below hb1,rfl,h10.below hb1,rfl,⟨A1,c1,rfl,Reads.more hr1 (fun b _ h=>Nat.le_trans kT h)⟩,rfl⟩
theorem UQ (w:World) (HG:Hid (Glob w)) (HN:Hid (QZ w)):QY w:=by
 intro D _ _ _ _ _ _ _ _ _ _ _ _ _ _ _ _ _ _ _ _ _ _ _ _ _ _ _ _ _ _ _ _ _ _ _ _ _ _ _ _ _ _ _ _ _ _ _ _ _ _ _ _ _ _ _ _ _ _ _ _ _ _ _ _ _ _ _ _ _ _ _ _ _ _ _ _ _ _ _ _ _ _ _ _ _ _ _ _ _ _ _ _ _ _ _ _ _ _ _ _ _ _ _ _ _ _ _ _ _ _ _ _ _ _ _ _ _ _ _ _ _ _ _ _ _ _ _ _ _ _ _ _ _ _ _ _ _ _ _ _ _ _ _ _ _ _ _ _ _ _ _ _ _ _ _ _ _ _ _ _ _ _ _ _ _ _ _ _ _ _ _ _ _ _ _ _ _ _ _ _ _ _ _ _ _ _ _ _ _ _ _ _ _ _ _ _ _ _ _ _ _ _ _ _ _ _ _ _ _ _ _ _ _ _ _ _ _ _ _ _ _ _ _ _ _ _ _ _ _ _ _ _ _ _ _ _ _ _ _ _ _ _ _ _ _ _ _ _ _ _ _ _ _ _ _ _ _ _ _ _ _ _ _ _ _ _ _ _ _ _ _ _ _ W hf
 dsimp only [eG,dQ,Tryz.f17,Option.getD]
 obtain ⟨rfl,rfl,rfl,hR,hD,kT,hL,h5,rfl,h8,rfl,h10,rfl,h12,rfl⟩:=hf
 obtain ⟨A4,c4,l4,rfl,hl,hr4,hg4⟩:=id hL
 have Fp:=hr4.own
 rw [hl.2] at Fp
 obtain ⟨i0,hi0,hz0,hz1,hz2⟩:=info_parts yw
 have uG:∀ W',(fun w':World=>Apart (w.heap.size+3) D W w') W'→W'.rangeAt w.heap.size 0 ([.string M.aQ,.int .i64 0,.int .i64 0]):=fun W' h=>(hR.apart h).e.range
 apply wp_seq_k
 intro K hK
 have HK:=hide hK
 clear hK
 refine wp_region_held_drew (S:=(fun w':World=>Apart (w.heap.size+3) D W w')) (by kernel_rfl) ?eP (fun hHeld=>?_)
 case eP=>exact Apart.start hR.sz
 refine wpAnyH_take (i:=0) (oi:=_) (v:=_) (ga rfl) (by kernel_rfl) (by kernel_rfl) (by kernel_rfl) (fun _ _ _ h=>h) (yieldsIf_load_mid (by rfl) _ _ (by rfl) _ _ (by rfl) _ _ uG Tryz.underlying23 rfl (by kernel_rfl)) (by assumption) ?_
 try simp only [Act.put,la,lz,ls]
 refine tk 1 ?_
 refine wpAnyH_ready (rs:=[2,10]) (by kernel_rfl) (by simp) ?_
 refine AllReadyH.cons (o:=_) (ga rfl) (fun K hK=>?_) (AllReadyH.cons (o:=_) (ga rfl) (fun K hK=>?_) AllReadyH.nil)
 · go_simp
   refine hK.out _ _ ?KU (fun hHeld=>?_)
   case KU=>(exact hHeld.alloc _)
   clear hK K
   try simp only [Act.put,la,lz,ls]
   refine wpAnyH_ready (rs:=[3,10]) (by kernel_rfl) (by simp) ?_
   refine AllReadyH.cons (o:=_) (ga rfl) (fun K hK=>?_) (AllReadyH.cons (o:=_) (ga rfl) (fun K hK=>?_) AllReadyH.nil)
   · go_simp
     first | (go_at_call 62;refine (dI M.wI M.yR 1 M.rW rfl (by omega) (by decide) (by first | exact Reads.dV _ _ 1 1 _ rfl (by omega) (fun _=>True) trivial | exact Reads.alloc (Reads.dV _ _ 1 1 _ rfl (by omega) (fun _=>True) trivial) _ | exact Reads.drew (Reads.newAt _ _ 1 1 _ _ rfl (by omega) (fun _=>True) trivial (by simp)) | exact Reads.drew (Reads.alloc (Reads.newAt _ _ 1 1 _ _ rfl (by omega) (fun _=>True) trivial rfl) _))).mono ?_;rintro e w6 ⟨l6,A6,c6,iQ,rfl,kP,hb6⟩;have iR:W.heap.size≤w6.heap.size:=Nat.le_trans hHeld.size hb6.size;have dD:=kP.read (by rw [iQ.2];omega);obtain ⟨x6,rfl⟩:=lI iQ.2;obtain ⟨b6,o6,rfl,_,zy,hc6⟩:=Reads.at_ dD.1 (by simp);rw [show bI [x6]=au x6 by simp [bI]] at hc6;have h6:Below W.heap.size W w6:=(by first | exact (jK W _).trans (hb6.mono hHeld.size) | exact (kZ W _ _).trans (hb6.mono hHeld.size));have Fq:=bT Fp (fun g hg=>h6.block g (Nat.lt_of_lt_of_le (hg4 g hg) kT));have Fv:=Reads.more (kP.each x6 (by simp)) (S':=fun b=>W.heap.size≤b) (fun b _ h=>Nat.le_trans hHeld.size h.1)) | (go_at_call 18;refine (cO (S:=fun _=>True) (l:=l4++[x6]) (n:=4) M.vO M.bV.1 M.dn.2.1 M.kY ⟨by unfold plain;rw [List.map_append];exact congr (congrArg _ hl.1) iQ.1,by simp [hl.2]⟩ (by first | exact tZ | exact tZ.below ((Below.refl _ _).alloc (Nat.le_refl _) _))).mono ?_;rintro e w8 ⟨A8,c8,A9,k9,c9,rfl,hb8⟩;have iY:W.heap.size≤w8.heap.size:=Nat.le_trans hHeld.size hb8.size)
     refine hK.out _ _ ?Lc (fun hHeld=>?_)
     case Lc=>(exact hHeld.call hb6)
     clear hK K
     try simp only [Act.put,la,lz,ls]
     refine wpAnyH_ready (rs:=[4,10]) (by kernel_rfl) (by simp) ?_
     refine AllReadyH.cons (o:=_) (ga rfl) (fun K hK=>?_) (AllReadyH.cons (o:=_) (ga rfl) (fun K hK=>?_) AllReadyH.nil)
     · refine step_append_lies _ (by rfl) _ _ _ (by rfl) (w.heap.size+3) 66 i0 (.agg #[.int .i64 0,.string ⟨#[]⟩,.int .i64 0,.int .i64 0,.int .i64 0,.bool false,.slice none 0 0]) 7 80 Tryz.underlying24 hi0 hz0 hz1 hz2 rfl (by omega) _ _ _ (by rfl) (by first | exact Fq | exact Fq.alloc _) ⟨b6,o6,none⟩ 1 c6 (au x6) (by rfl) (by rfl) (fun j u hu=>by rw [rH];first | exact hc6 j u hu | exact (World.cell?_alloc_lt _ _ ⟨b6,o6+j,none⟩ zy).trans (hc6 j u hu)) (uq x6.x x6.a x6.c) (by omega) (by simp only [maxLen];omega) (by omega) (Nat.le_trans hR.sz hHeld.size) _ rfl ?_;intro g1 cap w7 lF bG uK H9;have sO:W.heap.size≤w7.heap.size:=Nat.le_trans hHeld.size bG.size;have Qb:=(by first | exact hr4.kX (x:=x6) hl.2 h6 hR.sz Fv bG lF uK | exact hr4.kX (x:=x6) hl.2 (h6.alloc iR _) hR.sz (Fv.alloc _) bG lF uK:jR 66 (w.heap.size+3) (l4++[x6]) (some ⟨g1,0,none⟩) cap w7);have tZ:=(Qb.read (by simp [hl.2])).more (S':=fun _=>True) (fun _ _ _=>trivial)
       refine hK.out _ _ ?Lj (fun hHeld=>?_)
       case Lj=>(exact hHeld.grown bG (fun g e=>⟨(bg Fp e).1,hg4 g e⟩))
       clear hK K
       try simp only [Act.put,la,lz,ls]
       refine wpAnyH_ready (rs:=[5,10]) (by kernel_rfl) (by simp) ?_
       refine AllReadyH.cons (o:=_) (ga rfl) (fun K hK=>?_) (AllReadyH.cons (o:=_) (ga rfl) (fun K hK=>?_) AllReadyH.nil)
       · go_simp
         first | (go_at_call 62;refine (dI M.wI M.yR 1 M.rW rfl (by omega) (by decide) (by first | exact Reads.dV _ _ 1 1 _ rfl (by omega) (fun _=>True) trivial | exact Reads.alloc (Reads.dV _ _ 1 1 _ rfl (by omega) (fun _=>True) trivial) _ | exact Reads.drew (Reads.newAt _ _ 1 1 _ _ rfl (by omega) (fun _=>True) trivial (by simp)) | exact Reads.drew (Reads.alloc (Reads.newAt _ _ 1 1 _ _ rfl (by omega) (fun _=>True) trivial rfl) _))).mono ?_;rintro e w6 ⟨l6,A6,c6,iQ,rfl,kP,hb6⟩;have iR:W.heap.size≤w6.heap.size:=Nat.le_trans hHeld.size hb6.size;have dD:=kP.read (by rw [iQ.2];omega);obtain ⟨x6,rfl⟩:=lI iQ.2;obtain ⟨b6,o6,rfl,_,zy,hc6⟩:=Reads.at_ dD.1 (by simp);rw [show bI [x6]=au x6 by simp [bI]] at hc6;have h6:Below W.heap.size W w6:=(by first | exact (jK W _).trans (hb6.mono hHeld.size) | exact (kZ W _ _).trans (hb6.mono hHeld.size));have Fq:=bT Fp (fun g hg=>h6.block g (Nat.lt_of_lt_of_le (hg4 g hg) kT));have Fv:=Reads.more (kP.each x6 (by simp)) (S':=fun b=>W.heap.size≤b) (fun b _ h=>Nat.le_trans hHeld.size h.1)) | (go_at_call 18;refine (cO (S:=fun _=>True) (l:=l4++[x6]) (n:=4) M.vO M.bV.1 M.dn.2.1 M.kY ⟨by unfold plain;rw [List.map_append];exact congr (congrArg _ hl.1) iQ.1,by simp [hl.2]⟩ (by first | exact tZ | exact tZ.below ((Below.refl _ _).alloc (Nat.le_refl _) _))).mono ?_;rintro e w8 ⟨A8,c8,A9,k9,c9,rfl,hb8⟩;have iY:W.heap.size≤w8.heap.size:=Nat.le_trans hHeld.size hb8.size)
         refine hK.out _ _ ?Ll (fun hHeld=>?_)
         case Ll=>(exact hHeld.call hb8)
         clear hK K
         try simp only [Act.put,la,lz,ls]
         refine tk 6 ?_
         refine tk 7 ?_
         refine tk 8 ?_
         refine tk 9 ?_
         refine tr 10 fun K hK=>?_
         go_simp
         refine hK.out _ _ ?IB (fun hHeld=>?_)
         case IB=>(exact hHeld.alloc _)
         clear hK K
         try simp only [Act.put,la,lz,ls]
         refine tr 11 fun K hK=>?_
         refine bF (cs:=aj) (by first | exact Held.new _ aj 33 | exact (Held.new w7 aj 33).below hb8 | exact ((Held.new w6 aj 33).grown bG (fun e=>Nat.lt_irrefl _ (Nat.lt_of_lt_of_le (hg4 _ e) (Nat.le_trans kT (by first | exact Nat.le_refl _ | exact iR | exact sO | exact iY | exact Nat.le_succ _))))).below hb8 | exact (((Held.newAt _ aj 33 (by simp)).drew.below hb6).grown bG (fun e=>Nat.lt_irrefl _ (Nat.lt_of_lt_of_le (hg4 _ e) (Nat.le_trans kT (by first | exact Nat.le_refl _ | exact iR | exact sO | exact iY | exact Nat.le_succ _))))).below hb8 | exact ((((Held.newAt _ aj 33 rfl).alloc _).drew.below hb6).grown bG (fun e=>Nat.lt_irrefl _ (Nat.lt_of_lt_of_le (hg4 _ e) (Nat.le_trans kT (by first | exact Nat.le_refl _ | exact iR | exact sO | exact iY | exact Nat.le_succ _))))).below hb8) (aW M.vO A8 c8) rfl bW (dL _ _ _) (.tmp 14) (.tmp 68) rfl rfl rfl ?_
         refine hK.out _ _ ?IE (fun hHeld=>?_)
         case IE=>(exact hHeld.sets (by first | exact Nat.le_refl _ | exact iR | exact sO | exact iY | exact Nat.le_succ _) _ _)
         clear hK K
         try simp only [Act.put,la,lz,ls]
         refine tk 12 ?_
         refine tk 13 ?_
         refine wpAnyH_done (by kernel_rfl) ?_ _
         refine HK.out _ _ ?_
         apply HN.out D
         exact ⟨rfl,rfl,rfl,hR.apart hHeld,hD,Nat.le_trans kT hHeld.size,h5.apart hHeld,rfl,h8.apart hHeld,rfl,h10.apart hHeld,rfl,h12.apart hHeld,rfl,⟨_,A8,c8,rfl,Nat.le_trans kT (by first | exact Nat.le_refl _ | exact iR | exact sO | exact iY | exact Nat.le_succ _),Held.whole (cs:=aj) (by first | exact Held.new _ aj 33 | exact (Held.new w7 aj 33).below hb8 | exact ((Held.new w6 aj 33).grown bG (fun e=>Nat.lt_irrefl _ (Nat.lt_of_lt_of_le (hg4 _ e) (Nat.le_trans kT (by first | exact Nat.le_refl _ | exact iR | exact sO | exact iY | exact Nat.le_succ _))))).below hb8 | exact (((Held.newAt _ aj 33 (by simp)).drew.below hb6).grown bG (fun e=>Nat.lt_irrefl _ (Nat.lt_of_lt_of_le (hg4 _ e) (Nat.le_trans kT (by first | exact Nat.le_refl _ | exact iR | exact sO | exact iY | exact Nat.le_succ _))))).below hb8 | exact ((((Held.newAt _ aj 33 rfl).alloc _).drew.below hb6).grown bG (fun e=>Nat.lt_irrefl _ (Nat.lt_of_lt_of_le (hg4 _ e) (Nat.le_trans kT (by first | exact Nat.le_refl _ | exact iR | exact sO | exact iY | exact Nat.le_succ _))))).below hb8) _ rfl⟩,rfl⟩
       · go_simp
         refine hK.out _ _ ?IC (fun hHeld=>?_)
         case IC=>(exact hHeld.alloc _)
         clear hK K
         try simp only [Act.put,la,lz,ls]
         refine tr 5 fun K hK=>?_
         go_simp
         first | (go_at_call 62;refine (dI M.wI M.yR 1 M.rW rfl (by omega) (by decide) (by first | exact Reads.dV _ _ 1 1 _ rfl (by omega) (fun _=>True) trivial | exact Reads.alloc (Reads.dV _ _ 1 1 _ rfl (by omega) (fun _=>True) trivial) _ | exact Reads.drew (Reads.newAt _ _ 1 1 _ _ rfl (by omega) (fun _=>True) trivial (by simp)) | exact Reads.drew (Reads.alloc (Reads.newAt _ _ 1 1 _ _ rfl (by omega) (fun _=>True) trivial rfl) _))).mono ?_;rintro e w6 ⟨l6,A6,c6,iQ,rfl,kP,hb6⟩;have iR:W.heap.size≤w6.heap.size:=Nat.le_trans hHeld.size hb6.size;have dD:=kP.read (by rw [iQ.2];omega);obtain ⟨x6,rfl⟩:=lI iQ.2;obtain ⟨b6,o6,rfl,_,zy,hc6⟩:=Reads.at_ dD.1 (by simp);rw [show bI [x6]=au x6 by simp [bI]] at hc6;have h6:Below W.heap.size W w6:=(by first | exact (jK W _).trans (hb6.mono hHeld.size) | exact (kZ W _ _).trans (hb6.mono hHeld.size));have Fq:=bT Fp (fun g hg=>h6.block g (Nat.lt_of_lt_of_le (hg4 g hg) kT));have Fv:=Reads.more (kP.each x6 (by simp)) (S':=fun b=>W.heap.size≤b) (fun b _ h=>Nat.le_trans hHeld.size h.1)) | (go_at_call 18;refine (cO (S:=fun _=>True) (l:=l4++[x6]) (n:=4) M.vO M.bV.1 M.dn.2.1 M.kY ⟨by unfold plain;rw [List.map_append];exact congr (congrArg _ hl.1) iQ.1,by simp [hl.2]⟩ (by first | exact tZ | exact tZ.below ((Below.refl _ _).alloc (Nat.le_refl _) _))).mono ?_;rintro e w8 ⟨A8,c8,A9,k9,c9,rfl,hb8⟩;have iY:W.heap.size≤w8.heap.size:=Nat.le_trans hHeld.size hb8.size)
         refine hK.out _ _ ?Lm (fun hHeld=>?_)
         case Lm=>(exact hHeld.call hb8)
         clear hK K
         try simp only [Act.put,la,lz,ls]
         refine tk 6 ?_
         refine tk 7 ?_
         refine tk 8 ?_
         refine tk 9 ?_
         refine tr 11 fun K hK=>?_
         refine bF (cs:=aj) (by first | exact Held.new _ aj 33 | exact (Held.new w7 aj 33).below hb8 | exact ((Held.new w6 aj 33).grown bG (fun e=>Nat.lt_irrefl _ (Nat.lt_of_lt_of_le (hg4 _ e) (Nat.le_trans kT (by first | exact Nat.le_refl _ | exact iR | exact sO | exact iY | exact Nat.le_succ _))))).below hb8 | exact (((Held.newAt _ aj 33 (by simp)).drew.below hb6).grown bG (fun e=>Nat.lt_irrefl _ (Nat.lt_of_lt_of_le (hg4 _ e) (Nat.le_trans kT (by first | exact Nat.le_refl _ | exact iR | exact sO | exact iY | exact Nat.le_succ _))))).below hb8 | exact ((((Held.newAt _ aj 33 rfl).alloc _).drew.below hb6).grown bG (fun e=>Nat.lt_irrefl _ (Nat.lt_of_lt_of_le (hg4 _ e) (Nat.le_trans kT (by first | exact Nat.le_refl _ | exact iR | exact sO | exact iY | exact Nat.le_succ _))))).below hb8) (aW M.vO A8 c8) rfl bW (dL _ _ _) (.tmp 14) (.tmp 68) rfl rfl rfl ?_
         refine hK.out _ _ ?IG (fun hHeld=>?_)
         case IG=>(exact hHeld.sets (by first | exact Nat.le_refl _ | exact iR | exact sO | exact iY | exact Nat.le_succ _) _ _)
         clear hK K
         try simp only [Act.put,la,lz,ls]
         refine tk 12 ?_
         refine tk 13 ?_
         refine wpAnyH_done (by kernel_rfl) ?_ _
         refine HK.out _ _ ?_
         apply HN.out D
         exact ⟨rfl,rfl,rfl,hR.apart hHeld,hD,Nat.le_trans kT hHeld.size,h5.apart hHeld,rfl,h8.apart hHeld,rfl,h10.apart hHeld,rfl,h12.apart hHeld,rfl,⟨_,A8,c8,rfl,Nat.le_trans kT (by first | exact Nat.le_refl _ | exact iR | exact sO | exact iY | exact Nat.le_succ _),Held.whole (cs:=aj) (by first | exact Held.new _ aj 33 | exact (Held.new w7 aj 33).below hb8 | exact ((Held.new w6 aj 33).grown bG (fun e=>Nat.lt_irrefl _ (Nat.lt_of_lt_of_le (hg4 _ e) (Nat.le_trans kT (by first | exact Nat.le_refl _ | exact iR | exact sO | exact iY | exact Nat.le_succ _))))).below hb8 | exact (((Held.newAt _ aj 33 (by simp)).drew.below hb6).grown bG (fun e=>Nat.lt_irrefl _ (Nat.lt_of_lt_of_le (hg4 _ e) (Nat.le_trans kT (by first | exact Nat.le_refl _ | exact iR | exact sO | exact iY | exact Nat.le_succ _))))).below hb8 | exact ((((Held.newAt _ aj 33 rfl).alloc _).drew.below hb6).grown bG (fun e=>Nat.lt_irrefl _ (Nat.lt_of_lt_of_le (hg4 _ e) (Nat.le_trans kT (by first | exact Nat.le_refl _ | exact iR | exact sO | exact iY | exact Nat.le_succ _))))).below hb8) _ rfl⟩,rfl⟩
     · go_simp
       refine hK.out _ _ ?F5 (fun hHeld=>?_)
       case F5=>(exact hHeld.alloc _)
       clear hK K
       try simp only [Act.put,la,lz,ls]
       refine tr 4 fun K hK=>?_
       refine step_append_lies _ (by rfl) _ _ _ (by rfl) (w.heap.size+3) 66 i0 (.agg #[.int .i64 0,.string ⟨#[]⟩,.int .i64 0,.int .i64 0,.int .i64 0,.bool false,.slice none 0 0]) 7 80 Tryz.underlying24 hi0 hz0 hz1 hz2 rfl (by omega) _ _ _ (by rfl) (by first | exact Fq | exact Fq.alloc _) ⟨b6,o6,none⟩ 1 c6 (au x6) (by rfl) (by rfl) (fun j u hu=>by rw [rH];first | exact hc6 j u hu | exact (World.cell?_alloc_lt _ _ ⟨b6,o6+j,none⟩ zy).trans (hc6 j u hu)) (uq x6.x x6.a x6.c) (by omega) (by simp only [maxLen];omega) (by omega) (Nat.le_trans hR.sz hHeld.size) _ rfl ?_;intro g1 cap w7 lF bG uK H9;have sO:W.heap.size≤w7.heap.size:=Nat.le_trans hHeld.size bG.size;have Qb:=(by first | exact hr4.kX (x:=x6) hl.2 h6 hR.sz Fv bG lF uK | exact hr4.kX (x:=x6) hl.2 (h6.alloc iR _) hR.sz (Fv.alloc _) bG lF uK:jR 66 (w.heap.size+3) (l4++[x6]) (some ⟨g1,0,none⟩) cap w7);have tZ:=(Qb.read (by simp [hl.2])).more (S':=fun _=>True) (fun _ _ _=>trivial)
       refine hK.out _ _ ?IV (fun hHeld=>?_)
       case IV=>(exact hHeld.grown bG (fun g e=>⟨(bg Fp e).1,hg4 g e⟩))
       clear hK K
       try simp only [Act.put,la,lz,ls]
       refine tr 5 fun K hK=>?_
       go_simp
       first | (go_at_call 62;refine (dI M.wI M.yR 1 M.rW rfl (by omega) (by decide) (by first | exact Reads.dV _ _ 1 1 _ rfl (by omega) (fun _=>True) trivial | exact Reads.alloc (Reads.dV _ _ 1 1 _ rfl (by omega) (fun _=>True) trivial) _ | exact Reads.drew (Reads.newAt _ _ 1 1 _ _ rfl (by omega) (fun _=>True) trivial (by simp)) | exact Reads.drew (Reads.alloc (Reads.newAt _ _ 1 1 _ _ rfl (by omega) (fun _=>True) trivial rfl) _))).mono ?_;rintro e w6 ⟨l6,A6,c6,iQ,rfl,kP,hb6⟩;have iR:W.heap.size≤w6.heap.size:=Nat.le_trans hHeld.size hb6.size;have dD:=kP.read (by rw [iQ.2];omega);obtain ⟨x6,rfl⟩:=lI iQ.2;obtain ⟨b6,o6,rfl,_,zy,hc6⟩:=Reads.at_ dD.1 (by simp);rw [show bI [x6]=au x6 by simp [bI]] at hc6;have h6:Below W.heap.size W w6:=(by first | exact (jK W _).trans (hb6.mono hHeld.size) | exact (kZ W _ _).trans (hb6.mono hHeld.size));have Fq:=bT Fp (fun g hg=>h6.block g (Nat.lt_of_lt_of_le (hg4 g hg) kT));have Fv:=Reads.more (kP.each x6 (by simp)) (S':=fun b=>W.heap.size≤b) (fun b _ h=>Nat.le_trans hHeld.size h.1)) | (go_at_call 18;refine (cO (S:=fun _=>True) (l:=l4++[x6]) (n:=4) M.vO M.bV.1 M.dn.2.1 M.kY ⟨by unfold plain;rw [List.map_append];exact congr (congrArg _ hl.1) iQ.1,by simp [hl.2]⟩ (by first | exact tZ | exact tZ.below ((Below.refl _ _).alloc (Nat.le_refl _) _))).mono ?_;rintro e w8 ⟨A8,c8,A9,k9,c9,rfl,hb8⟩;have iY:W.heap.size≤w8.heap.size:=Nat.le_trans hHeld.size hb8.size)
       refine hK.out _ _ ?IY (fun hHeld=>?_)
       case IY=>(exact hHeld.call hb8)
       clear hK K
       try simp only [Act.put,la,lz,ls]
       refine tk 6 ?_
       refine tk 7 ?_
       refine tk 8 ?_
       refine tk 9 ?_
       refine tr 11 fun K hK=>?_
       refine bF (cs:=aj) (by first | exact Held.new _ aj 33 | exact (Held.new w7 aj 33).below hb8 | exact ((Held.new w6 aj 33).grown bG (fun e=>Nat.lt_irrefl _ (Nat.lt_of_lt_of_le (hg4 _ e) (Nat.le_trans kT (by first | exact Nat.le_refl _ | exact iR | exact sO | exact iY | exact Nat.le_succ _))))).below hb8 | exact (((Held.newAt _ aj 33 (by simp)).drew.below hb6).grown bG (fun e=>Nat.lt_irrefl _ (Nat.lt_of_lt_of_le (hg4 _ e) (Nat.le_trans kT (by first | exact Nat.le_refl _ | exact iR | exact sO | exact iY | exact Nat.le_succ _))))).below hb8 | exact ((((Held.newAt _ aj 33 rfl).alloc _).drew.below hb6).grown bG (fun e=>Nat.lt_irrefl _ (Nat.lt_of_lt_of_le (hg4 _ e) (Nat.le_trans kT (by first | exact Nat.le_refl _ | exact iR | exact sO | exact iY | exact Nat.le_succ _))))).below hb8) (aW M.vO A8 c8) rfl bW (dL _ _ _) (.tmp 14) (.tmp 68) rfl rfl rfl ?_
       refine hK.out _ _ ?F9 (fun hHeld=>?_)
       case F9=>(exact hHeld.sets (by first | exact Nat.le_refl _ | exact iR | exact sO | exact iY | exact Nat.le_succ _) _ _)
       clear hK K
       try simp only [Act.put,la,lz,ls]
       refine tk 12 ?_
       refine tk 13 ?_
       refine wpAnyH_done (by kernel_rfl) ?_ _
       refine HK.out _ _ ?_
       apply HN.out D
       exact ⟨rfl,rfl,rfl,hR.apart hHeld,hD,Nat.le_trans kT hHeld.size,h5.apart hHeld,rfl,h8.apart hHeld,rfl,h10.apart hHeld,rfl,h12.apart hHeld,rfl,⟨_,A8,c8,rfl,Nat.le_trans kT (by first | exact Nat.le_refl _ | exact iR | exact sO | exact iY | exact Nat.le_succ _),Held.whole (cs:=aj) (by first | exact Held.new _ aj 33 | exact (Held.new w7 aj 33).below hb8 | exact ((Held.new w6 aj 33).grown bG (fun e=>Nat.lt_irrefl _ (Nat.lt_of_lt_of_le (hg4 _ e) (Nat.le_trans kT (by first | exact Nat.le_refl _ | exact iR | exact sO | exact iY | exact Nat.le_succ _))))).below hb8 | exact (((Held.newAt _ aj 33 (by simp)).drew.below hb6).grown bG (fun e=>Nat.lt_irrefl _ (Nat.lt_of_lt_of_le (hg4 _ e) (Nat.le_trans kT (by first | exact Nat.le_refl _ | exact iR | exact sO | exact iY | exact Nat.le_succ _))))).below hb8 | exact ((((Held.newAt _ aj 33 rfl).alloc _).drew.below hb6).grown bG (fun e=>Nat.lt_irrefl _ (Nat.lt_of_lt_of_le (hg4 _ e) (Nat.le_trans kT (by first | exact Nat.le_refl _ | exact iR | exact sO | exact iY | exact Nat.le_succ _))))).below hb8) _ rfl⟩,rfl⟩
   · go_simp
     refine hK.out _ _ ?F6 (fun hHeld=>?_)
     case F6=>(exact hHeld.alloc _)
     clear hK K
     try simp only [Act.put,la,lz,ls]
     refine tr 3 fun K hK=>?_
     go_simp
     first | (go_at_call 62;refine (dI M.wI M.yR 1 M.rW rfl (by omega) (by decide) (by first | exact Reads.dV _ _ 1 1 _ rfl (by omega) (fun _=>True) trivial | exact Reads.alloc (Reads.dV _ _ 1 1 _ rfl (by omega) (fun _=>True) trivial) _ | exact Reads.drew (Reads.newAt _ _ 1 1 _ _ rfl (by omega) (fun _=>True) trivial (by simp)) | exact Reads.drew (Reads.alloc (Reads.newAt _ _ 1 1 _ _ rfl (by omega) (fun _=>True) trivial rfl) _))).mono ?_;rintro e w6 ⟨l6,A6,c6,iQ,rfl,kP,hb6⟩;have iR:W.heap.size≤w6.heap.size:=Nat.le_trans hHeld.size hb6.size;have dD:=kP.read (by rw [iQ.2];omega);obtain ⟨x6,rfl⟩:=lI iQ.2;obtain ⟨b6,o6,rfl,_,zy,hc6⟩:=Reads.at_ dD.1 (by simp);rw [show bI [x6]=au x6 by simp [bI]] at hc6;have h6:Below W.heap.size W w6:=(by first | exact (jK W _).trans (hb6.mono hHeld.size) | exact (kZ W _ _).trans (hb6.mono hHeld.size));have Fq:=bT Fp (fun g hg=>h6.block g (Nat.lt_of_lt_of_le (hg4 g hg) kT));have Fv:=Reads.more (kP.each x6 (by simp)) (S':=fun b=>W.heap.size≤b) (fun b _ h=>Nat.le_trans hHeld.size h.1)) | (go_at_call 18;refine (cO (S:=fun _=>True) (l:=l4++[x6]) (n:=4) M.vO M.bV.1 M.dn.2.1 M.kY ⟨by unfold plain;rw [List.map_append];exact congr (congrArg _ hl.1) iQ.1,by simp [hl.2]⟩ (by first | exact tZ | exact tZ.below ((Below.refl _ _).alloc (Nat.le_refl _) _))).mono ?_;rintro e w8 ⟨A8,c8,A9,k9,c9,rfl,hb8⟩;have iY:W.heap.size≤w8.heap.size:=Nat.le_trans hHeld.size hb8.size)
     refine hK.out _ _ ?IQ (fun hHeld=>?_)
     case IQ=>(exact hHeld.call hb6)
     clear hK K
     try simp only [Act.put,la,lz,ls]
     refine tr 4 fun K hK=>?_
     refine step_append_lies _ (by rfl) _ _ _ (by rfl) (w.heap.size+3) 66 i0 (.agg #[.int .i64 0,.string ⟨#[]⟩,.int .i64 0,.int .i64 0,.int .i64 0,.bool false,.slice none 0 0]) 7 80 Tryz.underlying24 hi0 hz0 hz1 hz2 rfl (by omega) _ _ _ (by rfl) (by first | exact Fq | exact Fq.alloc _) ⟨b6,o6,none⟩ 1 c6 (au x6) (by rfl) (by rfl) (fun j u hu=>by rw [rH];first | exact hc6 j u hu | exact (World.cell?_alloc_lt _ _ ⟨b6,o6+j,none⟩ zy).trans (hc6 j u hu)) (uq x6.x x6.a x6.c) (by omega) (by simp only [maxLen];omega) (by omega) (Nat.le_trans hR.sz hHeld.size) _ rfl ?_;intro g1 cap w7 lF bG uK H9;have sO:W.heap.size≤w7.heap.size:=Nat.le_trans hHeld.size bG.size;have Qb:=(by first | exact hr4.kX (x:=x6) hl.2 h6 hR.sz Fv bG lF uK | exact hr4.kX (x:=x6) hl.2 (h6.alloc iR _) hR.sz (Fv.alloc _) bG lF uK:jR 66 (w.heap.size+3) (l4++[x6]) (some ⟨g1,0,none⟩) cap w7);have tZ:=(Qb.read (by simp [hl.2])).more (S':=fun _=>True) (fun _ _ _=>trivial)
     refine hK.out _ _ ?IW (fun hHeld=>?_)
     case IW=>(exact hHeld.grown bG (fun g e=>⟨(bg Fp e).1,hg4 g e⟩))
     clear hK K
     try simp only [Act.put,la,lz,ls]
     refine tr 5 fun K hK=>?_
     go_simp
     first | (go_at_call 62;refine (dI M.wI M.yR 1 M.rW rfl (by omega) (by decide) (by first | exact Reads.dV _ _ 1 1 _ rfl (by omega) (fun _=>True) trivial | exact Reads.alloc (Reads.dV _ _ 1 1 _ rfl (by omega) (fun _=>True) trivial) _ | exact Reads.drew (Reads.newAt _ _ 1 1 _ _ rfl (by omega) (fun _=>True) trivial (by simp)) | exact Reads.drew (Reads.alloc (Reads.newAt _ _ 1 1 _ _ rfl (by omega) (fun _=>True) trivial rfl) _))).mono ?_;rintro e w6 ⟨l6,A6,c6,iQ,rfl,kP,hb6⟩;have iR:W.heap.size≤w6.heap.size:=Nat.le_trans hHeld.size hb6.size;have dD:=kP.read (by rw [iQ.2];omega);obtain ⟨x6,rfl⟩:=lI iQ.2;obtain ⟨b6,o6,rfl,_,zy,hc6⟩:=Reads.at_ dD.1 (by simp);rw [show bI [x6]=au x6 by simp [bI]] at hc6;have h6:Below W.heap.size W w6:=(by first | exact (jK W _).trans (hb6.mono hHeld.size) | exact (kZ W _ _).trans (hb6.mono hHeld.size));have Fq:=bT Fp (fun g hg=>h6.block g (Nat.lt_of_lt_of_le (hg4 g hg) kT));have Fv:=Reads.more (kP.each x6 (by simp)) (S':=fun b=>W.heap.size≤b) (fun b _ h=>Nat.le_trans hHeld.size h.1)) | (go_at_call 18;refine (cO (S:=fun _=>True) (l:=l4++[x6]) (n:=4) M.vO M.bV.1 M.dn.2.1 M.kY ⟨by unfold plain;rw [List.map_append];exact congr (congrArg _ hl.1) iQ.1,by simp [hl.2]⟩ (by first | exact tZ | exact tZ.below ((Below.refl _ _).alloc (Nat.le_refl _) _))).mono ?_;rintro e w8 ⟨A8,c8,A9,k9,c9,rfl,hb8⟩;have iY:W.heap.size≤w8.heap.size:=Nat.le_trans hHeld.size hb8.size)
     refine hK.out _ _ ?IZ (fun hHeld=>?_)
     case IZ=>(exact hHeld.call hb8)
     clear hK K
     try simp only [Act.put,la,lz,ls]
     refine tk 6 ?_
     refine tk 7 ?_
     refine tk 8 ?_
     refine tk 9 ?_
     refine tr 11 fun K hK=>?_
     refine bF (cs:=aj) (by first | exact Held.new _ aj 33 | exact (Held.new w7 aj 33).below hb8 | exact ((Held.new w6 aj 33).grown bG (fun e=>Nat.lt_irrefl _ (Nat.lt_of_lt_of_le (hg4 _ e) (Nat.le_trans kT (by first | exact Nat.le_refl _ | exact iR | exact sO | exact iY | exact Nat.le_succ _))))).below hb8 | exact (((Held.newAt _ aj 33 (by simp)).drew.below hb6).grown bG (fun e=>Nat.lt_irrefl _ (Nat.lt_of_lt_of_le (hg4 _ e) (Nat.le_trans kT (by first | exact Nat.le_refl _ | exact iR | exact sO | exact iY | exact Nat.le_succ _))))).below hb8 | exact ((((Held.newAt _ aj 33 rfl).alloc _).drew.below hb6).grown bG (fun e=>Nat.lt_irrefl _ (Nat.lt_of_lt_of_le (hg4 _ e) (Nat.le_trans kT (by first | exact Nat.le_refl _ | exact iR | exact sO | exact iY | exact Nat.le_succ _))))).below hb8) (aW M.vO A8 c8) rfl bW (dL _ _ _) (.tmp 14) (.tmp 68) rfl rfl rfl ?_
     refine hK.out _ _ ?Gf (fun hHeld=>?_)
     case Gf=>(exact hHeld.sets (by first | exact Nat.le_refl _ | exact iR | exact sO | exact iY | exact Nat.le_succ _) _ _)
     clear hK K
     try simp only [Act.put,la,lz,ls]
     refine tk 12 ?_
     refine tk 13 ?_
     refine wpAnyH_done (by kernel_rfl) ?_ _
     refine HK.out _ _ ?_
     apply HN.out D
     exact ⟨rfl,rfl,rfl,hR.apart hHeld,hD,Nat.le_trans kT hHeld.size,h5.apart hHeld,rfl,h8.apart hHeld,rfl,h10.apart hHeld,rfl,h12.apart hHeld,rfl,⟨_,A8,c8,rfl,Nat.le_trans kT (by first | exact Nat.le_refl _ | exact iR | exact sO | exact iY | exact Nat.le_succ _),Held.whole (cs:=aj) (by first | exact Held.new _ aj 33 | exact (Held.new w7 aj 33).below hb8 | exact ((Held.new w6 aj 33).grown bG (fun e=>Nat.lt_irrefl _ (Nat.lt_of_lt_of_le (hg4 _ e) (Nat.le_trans kT (by first | exact Nat.le_refl _ | exact iR | exact sO | exact iY | exact Nat.le_succ _))))).below hb8 | exact (((Held.newAt _ aj 33 (by simp)).drew.below hb6).grown bG (fun e=>Nat.lt_irrefl _ (Nat.lt_of_lt_of_le (hg4 _ e) (Nat.le_trans kT (by first | exact Nat.le_refl _ | exact iR | exact sO | exact iY | exact Nat.le_succ _))))).below hb8 | exact ((((Held.newAt _ aj 33 rfl).alloc _).drew.below hb6).grown bG (fun e=>Nat.lt_irrefl _ (Nat.lt_of_lt_of_le (hg4 _ e) (Nat.le_trans kT (by first | exact Nat.le_refl _ | exact iR | exact sO | exact iY | exact Nat.le_succ _))))).below hb8) _ rfl⟩,rfl⟩
 · go_simp
   refine hK.out _ _ ?F7 (fun hHeld=>?_)
   case F7=>(exact hHeld.alloc _)
   clear hK K
   try simp only [Act.put,la,lz,ls]
   refine tr 2 fun K hK=>?_
   go_simp
   refine hK.out _ _ ?IK (fun hHeld=>?_)
   case IK=>(exact hHeld.alloc _)
   clear hK K
   try simp only [Act.put,la,lz,ls]
   refine tr 3 fun K hK=>?_
   go_simp
   first | (go_at_call 62;refine (dI M.wI M.yR 1 M.rW rfl (by omega) (by decide) (by first | exact Reads.dV _ _ 1 1 _ rfl (by omega) (fun _=>True) trivial | exact Reads.alloc (Reads.dV _ _ 1 1 _ rfl (by omega) (fun _=>True) trivial) _ | exact Reads.drew (Reads.newAt _ _ 1 1 _ _ rfl (by omega) (fun _=>True) trivial (by simp)) | exact Reads.drew (Reads.alloc (Reads.newAt _ _ 1 1 _ _ rfl (by omega) (fun _=>True) trivial rfl) _))).mono ?_;rintro e w6 ⟨l6,A6,c6,iQ,rfl,kP,hb6⟩;have iR:W.heap.size≤w6.heap.size:=Nat.le_trans hHeld.size hb6.size;have dD:=kP.read (by rw [iQ.2];omega);obtain ⟨x6,rfl⟩:=lI iQ.2;obtain ⟨b6,o6,rfl,_,zy,hc6⟩:=Reads.at_ dD.1 (by simp);rw [show bI [x6]=au x6 by simp [bI]] at hc6;have h6:Below W.heap.size W w6:=(by first | exact (jK W _).trans (hb6.mono hHeld.size) | exact (kZ W _ _).trans (hb6.mono hHeld.size));have Fq:=bT Fp (fun g hg=>h6.block g (Nat.lt_of_lt_of_le (hg4 g hg) kT));have Fv:=Reads.more (kP.each x6 (by simp)) (S':=fun b=>W.heap.size≤b) (fun b _ h=>Nat.le_trans hHeld.size h.1)) | (go_at_call 18;refine (cO (S:=fun _=>True) (l:=l4++[x6]) (n:=4) M.vO M.bV.1 M.dn.2.1 M.kY ⟨by unfold plain;rw [List.map_append];exact congr (congrArg _ hl.1) iQ.1,by simp [hl.2]⟩ (by first | exact tZ | exact tZ.below ((Below.refl _ _).alloc (Nat.le_refl _) _))).mono ?_;rintro e w8 ⟨A8,c8,A9,k9,c9,rfl,hb8⟩;have iY:W.heap.size≤w8.heap.size:=Nat.le_trans hHeld.size hb8.size)
   refine hK.out _ _ ?IU (fun hHeld=>?_)
   case IU=>(exact hHeld.call hb6)
   clear hK K
   try simp only [Act.put,la,lz,ls]
   refine tr 4 fun K hK=>?_
   refine step_append_lies _ (by rfl) _ _ _ (by rfl) (w.heap.size+3) 66 i0 (.agg #[.int .i64 0,.string ⟨#[]⟩,.int .i64 0,.int .i64 0,.int .i64 0,.bool false,.slice none 0 0]) 7 80 Tryz.underlying24 hi0 hz0 hz1 hz2 rfl (by omega) _ _ _ (by rfl) (by first | exact Fq | exact Fq.alloc _) ⟨b6,o6,none⟩ 1 c6 (au x6) (by rfl) (by rfl) (fun j u hu=>by rw [rH];first | exact hc6 j u hu | exact (World.cell?_alloc_lt _ _ ⟨b6,o6+j,none⟩ zy).trans (hc6 j u hu)) (uq x6.x x6.a x6.c) (by omega) (by simp only [maxLen];omega) (by omega) (Nat.le_trans hR.sz hHeld.size) _ rfl ?_;intro g1 cap w7 lF bG uK H9;have sO:W.heap.size≤w7.heap.size:=Nat.le_trans hHeld.size bG.size;have Qb:=(by first | exact hr4.kX (x:=x6) hl.2 h6 hR.sz Fv bG lF uK | exact hr4.kX (x:=x6) hl.2 (h6.alloc iR _) hR.sz (Fv.alloc _) bG lF uK:jR 66 (w.heap.size+3) (l4++[x6]) (some ⟨g1,0,none⟩) cap w7);have tZ:=(Qb.read (by simp [hl.2])).more (S':=fun _=>True) (fun _ _ _=>trivial)
   refine hK.out _ _ ?IX (fun hHeld=>?_)
   case IX=>(exact hHeld.grown bG (fun g e=>⟨(bg Fp e).1,hg4 g e⟩))
   clear hK K
   try simp only [Act.put,la,lz,ls]
   refine tr 5 fun K hK=>?_
   go_simp
   first | (go_at_call 62;refine (dI M.wI M.yR 1 M.rW rfl (by omega) (by decide) (by first | exact Reads.dV _ _ 1 1 _ rfl (by omega) (fun _=>True) trivial | exact Reads.alloc (Reads.dV _ _ 1 1 _ rfl (by omega) (fun _=>True) trivial) _ | exact Reads.drew (Reads.newAt _ _ 1 1 _ _ rfl (by omega) (fun _=>True) trivial (by simp)) | exact Reads.drew (Reads.alloc (Reads.newAt _ _ 1 1 _ _ rfl (by omega) (fun _=>True) trivial rfl) _))).mono ?_;rintro e w6 ⟨l6,A6,c6,iQ,rfl,kP,hb6⟩;have iR:W.heap.size≤w6.heap.size:=Nat.le_trans hHeld.size hb6.size;have dD:=kP.read (by rw [iQ.2];omega);obtain ⟨x6,rfl⟩:=lI iQ.2;obtain ⟨b6,o6,rfl,_,zy,hc6⟩:=Reads.at_ dD.1 (by simp);rw [show bI [x6]=au x6 by simp [bI]] at hc6;have h6:Below W.heap.size W w6:=(by first | exact (jK W _).trans (hb6.mono hHeld.size) | exact (kZ W _ _).trans (hb6.mono hHeld.size));have Fq:=bT Fp (fun g hg=>h6.block g (Nat.lt_of_lt_of_le (hg4 g hg) kT));have Fv:=Reads.more (kP.each x6 (by simp)) (S':=fun b=>W.heap.size≤b) (fun b _ h=>Nat.le_trans hHeld.size h.1)) | (go_at_call 18;refine (cO (S:=fun _=>True) (l:=l4++[x6]) (n:=4) M.vO M.bV.1 M.dn.2.1 M.kY ⟨by unfold plain;rw [List.map_append];exact congr (congrArg _ hl.1) iQ.1,by simp [hl.2]⟩ (by first | exact tZ | exact tZ.below ((Below.refl _ _).alloc (Nat.le_refl _) _))).mono ?_;rintro e w8 ⟨A8,c8,A9,k9,c9,rfl,hb8⟩;have iY:W.heap.size≤w8.heap.size:=Nat.le_trans hHeld.size hb8.size)
   refine hK.out _ _ ?I4 (fun hHeld=>?_)
   case I4=>(exact hHeld.call hb8)
   clear hK K
   try simp only [Act.put,la,lz,ls]
   refine tk 6 ?_
   refine tk 7 ?_
   refine tk 8 ?_
   refine tk 9 ?_
   refine tr 11 fun K hK=>?_
   refine bF (cs:=aj) (by first | exact Held.new _ aj 33 | exact (Held.new w7 aj 33).below hb8 | exact ((Held.new w6 aj 33).grown bG (fun e=>Nat.lt_irrefl _ (Nat.lt_of_lt_of_le (hg4 _ e) (Nat.le_trans kT (by first | exact Nat.le_refl _ | exact iR | exact sO | exact iY | exact Nat.le_succ _))))).below hb8 | exact (((Held.newAt _ aj 33 (by simp)).drew.below hb6).grown bG (fun e=>Nat.lt_irrefl _ (Nat.lt_of_lt_of_le (hg4 _ e) (Nat.le_trans kT (by first | exact Nat.le_refl _ | exact iR | exact sO | exact iY | exact Nat.le_succ _))))).below hb8 | exact ((((Held.newAt _ aj 33 rfl).alloc _).drew.below hb6).grown bG (fun e=>Nat.lt_irrefl _ (Nat.lt_of_lt_of_le (hg4 _ e) (Nat.le_trans kT (by first | exact Nat.le_refl _ | exact iR | exact sO | exact iY | exact Nat.le_succ _))))).below hb8) (aW M.vO A8 c8) rfl bW (dL _ _ _) (.tmp 14) (.tmp 68) rfl rfl rfl ?_
   refine hK.out _ _ ?Gg (fun hHeld=>?_)
   case Gg=>(exact hHeld.sets (by first | exact Nat.le_refl _ | exact iR | exact sO | exact iY | exact Nat.le_succ _) _ _)
   clear hK K
   try simp only [Act.put,la,lz,ls]
   refine tk 12 ?_
   refine tk 13 ?_
   refine wpAnyH_done (by kernel_rfl) ?_ _
   refine HK.out _ _ ?_
   apply HN.out D
   exact ⟨rfl,rfl,rfl,hR.apart hHeld,hD,Nat.le_trans kT hHeld.size,h5.apart hHeld,rfl,h8.apart hHeld,rfl,h10.apart hHeld,rfl,h12.apart hHeld,rfl,⟨_,A8,c8,rfl,Nat.le_trans kT (by first | exact Nat.le_refl _ | exact iR | exact sO | exact iY | exact Nat.le_succ _),Held.whole (cs:=aj) (by first | exact Held.new _ aj 33 | exact (Held.new w7 aj 33).below hb8 | exact ((Held.new w6 aj 33).grown bG (fun e=>Nat.lt_irrefl _ (Nat.lt_of_lt_of_le (hg4 _ e) (Nat.le_trans kT (by first | exact Nat.le_refl _ | exact iR | exact sO | exact iY | exact Nat.le_succ _))))).below hb8 | exact (((Held.newAt _ aj 33 (by simp)).drew.below hb6).grown bG (fun e=>Nat.lt_irrefl _ (Nat.lt_of_lt_of_le (hg4 _ e) (Nat.le_trans kT (by first | exact Nat.le_refl _ | exact iR | exact sO | exact iY | exact Nat.le_succ _))))).below hb8 | exact ((((Held.newAt _ aj 33 rfl).alloc _).drew.below hb6).grown bG (fun e=>Nat.lt_irrefl _ (Nat.lt_of_lt_of_le (hg4 _ e) (Nat.le_trans kT (by first | exact Nat.le_refl _ | exact iR | exact sO | exact iY | exact Nat.le_succ _))))).below hb8) _ rfl⟩,rfl⟩
theorem UR (w:World) (HG:Hid (Glob w)) (HN:Hid (OO w)):QZ w:=by
 intro _ _ _ _ _ _ _ _ _ _ _ _ _ _ _ _ _ _ _ _ _ _ _ _ _ _ _ _ _ _ _ _ _ _ _ _ _ _ _ _ _ _ _ _ _ _ _ _ _ _ _ _ _ _ _ _ _ _ _ _ _ _ _ _ _ _ _ _ _ _ _ _ _ _ _ _ _ _ _ _ _ _ _ _ _ _ _ _ _ _ _ _ _ _ _ _ _ _ _ _ _ _ _ _ _ _ _ _ _ _ _ _ _ _ _ _ _ _ _ _ _ _ _ _ _ _ _ _ _ _ _ _ _ _ _ _ _ _ _ _ _ _ _ _ _ _ _ _ _ _ _ _ _ _ _ _ _ _ _ _ _ _ _ _ _ _ _ _ _ _ _ _ _ _ _ _ _ _ _ _ _ _ _ _ _ _ _ _ _ _ _ _ _ _ _ _ _ _ _ _ _ _ _ _ _ _ _ _ _ _ _ _ _ _ _ _ _ _ _ _ _ _ _ _ _ _ _ _ _ _ _ _ _ _ _ _ _ _ _ _ _ _ _ _ _ _ _ _ _ _ _ _ _ _ _ _ _ _ _ _ _ _ _ _ _ _ _ _ _ _ _ _ _ _ W hf
 dsimp only [eG,dQ,Tryz.f17,Option.getD]
 obtain ⟨rfl,rfl,rfl,hR,hD,kT,h5,rfl,h8,rfl,h10,rfl,h12,rfl,Xo,rfl⟩:=hf
 obtain ⟨B5,A5,c5,rfl,hD5,NM,SC⟩:=h5
 obtain ⟨A8,c8,rfl,Wu⟩:=h8
 obtain ⟨Yv,c10,rfl,Sz⟩:=h10
 obtain ⟨Yw,c12,rfl,SA⟩:=h12
 obtain ⟨VE,Yx,c14,rfl,Xv,Ob⟩:=Xo
 obtain ⟨b10,Pq,rfl,_,Sl,Si⟩:=Reads.at_ Sz (by omega)
 obtain ⟨b12,Vw,rfl,_,Sm,hc12⟩:=Reads.at_ SA (by omega)
 have k0:W.cell? ⟨B5,0,none⟩=some (.int .i64 1):=NM.cell (j:=0) rfl
 have k2:W.cell? ⟨B5,2,none⟩=some (.bool true):=NM.cell (j:=2) rfl
 have k5:W.cell? ⟨B5,5,none⟩=some (.int .i64 2):=NM.cell (j:=5) rfl
 have k7:W.cell? ⟨B5,7,none⟩=some (.int .i64 2):=NM.cell (j:=7) rfl
 have k8:W.cell? ⟨B5,8,none⟩=some (.int .i64 0):=NM.cell (j:=8) rfl
 have k11:W.cell? ⟨B5,11,none⟩=some (.int .i64 0):=NM.cell (j:=11) rfl
 have q13:W.cell? ⟨VE,13,none⟩=some (.bool true):=Ob.cell (j:=13) rfl
 have Y7:W.cell? ⟨VE,14,none⟩=some (.int .i64 0):=Ob.cell (j:=14) rfl
 have nn:∀ j v,(noteCells [⟨1,0,0,0,1,false⟩,⟨2,0,0,0,1,false⟩,⟨3,0,0,3,0,true⟩])[j]? =some v→W.cell? ⟨b10,Pq+j,none⟩=some v:=Si
 have rr:∀ j v,(dN [⟨0,2⟩])[j]? =some v→W.cell? ⟨b12,Vw+j,none⟩=some v:=hc12
 have hl5:=NM.lt
 have XT:=Ob.lt
 have hq1:∀ w',(Op.equalIn 10000 31 (.agg #[.int .i64 2,.int .i64 0]) (.agg #[.int .i64 2,.int .i64 0])).run Tryz.prog w'= .ok true w':=fun _=>by kernel_rfl
 have hq2:∀ w',(Op.equalIn 10000 54 (.agg #[.int .i64 3,.int .i64 0,.int .i64 0,.int .i64 3,.int .i64 0,.bool true]) (.agg #[.int .i64 3,.int .i64 0,.int .i64 0,.int .i64 3,.int .i64 0,.bool true])).run Tryz.prog w'= .ok true w':=fun _=>by kernel_rfl
 have hq3:∀ w',(Op.equalIn 10000 63 (.agg #[.int .i64 0,.int .i64 2]) (.agg #[.int .i64 0,.int .i64 2])).run Tryz.prog w'= .ok true w':=fun _=>by kernel_rfl
 have hg1:Tryz.prog.eqGuardType Tryz.prog.depth 31=false:=by kernel_rfl
 have hg2:Tryz.prog.eqGuardType Tryz.prog.depth 54=false:=by kernel_rfl
 have hg3:Tryz.prog.eqGuardType Tryz.prog.depth 63=false:=by kernel_rfl
 apply wp_seq_k
 intro K hK
 have HK:=hide hK
 clear hK
 apply wp_seq_k
 intro K2 hK2
 have PD:=hide hK2
 clear hK2
 have HR:=hide hR
 have EO:=hide nn
 have Rf:=hide rr
 have Xa:=hide Wu
 clear Si hc12 nn rr Sz SA hR SC Wu NM Ob
 have XJ:b10<W.heap.size:=Sl
 have U4:b12<W.heap.size:=Sm
 have m0:W.cell? ⟨b10,Pq+12,none⟩=some (.int .i64 3):=EO.out 12 _ rfl
 have m1:W.cell? ⟨b10,Pq+12+1,none⟩=some (.int .i64 0):=EO.out 13 _ rfl
 have m2:W.cell? ⟨b10,Pq+12+2,none⟩=some (.int .i64 0):=EO.out 14 _ rfl
 have m3:W.cell? ⟨b10,Pq+12+3,none⟩=some (.int .i64 3):=EO.out 15 _ rfl
 have m4:W.cell? ⟨b10,Pq+12+4,none⟩=some (.int .i64 0):=EO.out 16 _ rfl
 have m5:W.cell? ⟨b10,Pq+12+5,none⟩=some (.bool true):=EO.out 17 _ rfl
 have r0:W.cell? ⟨b12,Vw,none⟩=some (.int .i64 0):=Rf.out 0 _ rfl
 have r1:W.cell? ⟨b12,Vw+1,none⟩=some (.int .i64 2):=Rf.out 1 _ rfl
 have n4:W.cell? ⟨b10,Pq+4,none⟩=some (.int .i64 1):=EO.out 4 _ rfl
 have hsi:=fun W' (h:Below W.heap.size W W') (o:Nat) (cc:Nat) (hr:bD W' (fun _=>True) (some ⟨o,0,none⟩) cc [1,2,3,4,5,6,7])=>Dp (fun _=>True) A8 (some ⟨o,0,none⟩) c8 cc [1,2,3,4,5,6,7] [1,2,3,4,5,6,7] W' (bD.more (Xa.out.below h) (fun _ _ _=>trivial)) hr
 have Xe:=hide hsi
 clear hsi
 go_wp2_with (first | (go_at_call 53;refine (Xe.out _ ((Below.refl _ _).alloc (Nat.le_refl _) _) _ 7 (bD.lit _ _ [1,2,3,4,5,6,7] (by simp) _ trivial)).mono ?_;rintro e w1 ⟨rfl,n1,rfl⟩;dsimp only))
 have hbw:=below_drewN ((Below.refl _ W).alloc (Nat.le_refl _) (.cells #[.int .i64 1,.int .i64 2,.int .i64 3,.int .i64 4,.int .i64 5,.int .i64 6,.int .i64 7] 3)) n1
 refine PD.out _ _ ?_
 go_wp2
 refine HK.out _ _ ?_
 apply HN.out
 exact ⟨rfl,rfl,rfl,HR.out.below hbw⟩
theorem Ri (w:World) (HG:Hid (Glob w)) (HN:Hid (OQ w)):OO w:=by
 intro _ _ _ _ _ _ _ _ _ _ _ _ _ _ _ _ _ _ _ _ _ _ _ _ _ _ _ _ _ _ _ _ _ _ _ _ _ _ _ _ _ _ _ _ _ _ _ _ _ _ _ _ _ _ _ _ _ _ _ _ _ _ _ _ _ _ _ _ _ _ _ _ _ _ _ _ _ _ _ _ _ _ _ _ _ _ _ _ _ _ _ _ _ _ _ _ _ _ _ _ _ _ _ _ _ _ _ _ _ _ _ _ _ _ _ _ _ _ _ _ _ _ _ _ _ _ _ _ _ _ _ _ _ _ _ _ _ _ _ _ _ _ _ _ _ _ _ _ _ _ _ _ _ _ _ _ _ _ _ _ _ _ _ _ _ _ _ _ _ _ _ _ _ _ _ _ _ _ _ _ _ _ _ _ _ _ _ _ _ _ _ _ _ _ _ _ _ _ _ _ _ _ _ _ _ _ _ _ _ _ _ _ _ _ _ _ _ _ _ _ _ _ _ _ _ _ _ _ _ _ _ _ _ _ _ _ _ _ _ _ _ _ _ _ _ _ _ _ _ _ _ _ _ _ _ _ _ _ _ _ _ _ _ _ _ _ _ _ _ _ _ _ _ W hf
 dsimp only [eG,dQ,Tryz.f17,Option.getD]
 obtain ⟨rfl,rfl,rfl,hR⟩:=hf
 have uG:∀ W',(fun w':World=>Below W.heap.size W w') W'→W'.rangeAt (w.heap.size+1) 0 ([.string M.bM,.int .i64 0,.int .i64 3]):=fun W' h=>(hR.n.below h).range
 apply wp_seq_k
 intro K hK
 have HK:=hide hK
 clear hK
 refine wp_region_held_drew (S:=(fun w':World=>Below W.heap.size W w')) (by kernel_rfl) ?eP (fun hHeld=>?_)
 case eP=>exact (Below.refl _ _).drew
 refine wpAnyH_take (i:=0) (oi:=_) (v:=_) (ga rfl) (by kernel_rfl) (by kernel_rfl) (by kernel_rfl) (fun _ _ _ h=>h) (yieldsIf_load_mid (by rfl) _ _ (by rfl) _ _ (by rfl) _ _ uG Tryz.underlying23 rfl (by kernel_rfl)) (by assumption) ?_
 try simp only [Act.put,la,lz,ls]
 refine wpAnyH_ready (rs:=[1,8]) (by kernel_rfl) (by simp) ?_
 refine AllReadyH.cons (o:=_) (ga rfl) (fun K hK=>?_) (AllReadyH.cons (o:=_) (ga rfl) (fun K hK=>?_) AllReadyH.nil)
 · go_simp
   refine hK.out _ _ ?KT (fun hHeld=>?_)
   case KT=>(exact Below.alloc hHeld hHeld.size _)
   clear hK K
   try simp only [Act.put,la,lz,ls]
   refine wpAnyH_ready (rs:=[2,8]) (by kernel_rfl) (by simp) ?_
   refine AllReadyH.cons (o:=_) (ga rfl) (fun K hK=>?_) (AllReadyH.cons (o:=_) (ga rfl) (fun K hK=>?_) AllReadyH.nil)
   · go_simp
     first | (go_at_call 62;refine (dI M.xM M.Ai 4 M.tC rfl (by omega) (by decide) (by first | exact Reads.dV _ _ 4 1 _ rfl (by omega) (fun _=>True) trivial | exact Reads.alloc (Reads.dV _ _ 4 1 _ rfl (by omega) (fun _=>True) trivial) _ | exact Reads.drew (Reads.newAt _ _ 4 1 _ _ rfl (by omega) (fun _=>True) trivial (by simp)) | exact Reads.drew (Reads.alloc (Reads.newAt _ _ 4 1 _ _ rfl (by omega) (fun _=>True) trivial rfl) _))).mono ?_;rintro e w6 ⟨l6,A6,c6,iQ,rfl,kP,hb6⟩;have iR:W.heap.size≤w6.heap.size:=Nat.le_trans hHeld.size hb6.size;have dD:=(kP.read (by rw [iQ.2];omega)).more (S':=fun _=>True) (fun _ _ _=>trivial)) | (go_at_call 18;refine (cO (S:=fun _=>True) M.uH M.bV.2.1 M.dn.2.2.1 M.lV iQ (by first | exact dD | exact dD.below ((Below.refl _ _).alloc (Nat.le_refl _) _))).mono ?_;rintro e w8 ⟨A8,c8,A9,k9,c9,rfl,hb8⟩;have iY:W.heap.size≤w8.heap.size:=Nat.le_trans hHeld.size hb8.size)
     refine hK.out _ _ ?KW (fun hHeld=>?_)
     case KW=>(exact hHeld.trans (hb6.mono hHeld.size))
     clear hK K
     try simp only [Act.put,la,lz,ls]
     refine wpAnyH_ready (rs:=[3,8]) (by kernel_rfl) (by simp) ?_
     refine AllReadyH.cons (o:=_) (ga rfl) (fun K hK=>?_) (AllReadyH.cons (o:=_) (ga rfl) (fun K hK=>?_) AllReadyH.nil)
     · go_simp
       first | (go_at_call 62;refine (dI M.xM M.Ai 4 M.tC rfl (by omega) (by decide) (by first | exact Reads.dV _ _ 4 1 _ rfl (by omega) (fun _=>True) trivial | exact Reads.alloc (Reads.dV _ _ 4 1 _ rfl (by omega) (fun _=>True) trivial) _ | exact Reads.drew (Reads.newAt _ _ 4 1 _ _ rfl (by omega) (fun _=>True) trivial (by simp)) | exact Reads.drew (Reads.alloc (Reads.newAt _ _ 4 1 _ _ rfl (by omega) (fun _=>True) trivial rfl) _))).mono ?_;rintro e w6 ⟨l6,A6,c6,iQ,rfl,kP,hb6⟩;have iR:W.heap.size≤w6.heap.size:=Nat.le_trans hHeld.size hb6.size;have dD:=(kP.read (by rw [iQ.2];omega)).more (S':=fun _=>True) (fun _ _ _=>trivial)) | (go_at_call 18;refine (cO (S:=fun _=>True) M.uH M.bV.2.1 M.dn.2.2.1 M.lV iQ (by first | exact dD | exact dD.below ((Below.refl _ _).alloc (Nat.le_refl _) _))).mono ?_;rintro e w8 ⟨A8,c8,A9,k9,c9,rfl,hb8⟩;have iY:W.heap.size≤w8.heap.size:=Nat.le_trans hHeld.size hb8.size)
       refine hK.out _ _ ?Ld (fun hHeld=>?_)
       case Ld=>(exact hHeld.trans (hb8.mono hHeld.size))
       clear hK K
       try simp only [Act.put,la,lz,ls]
       refine tk 4 ?_
       refine tk 5 ?_
       refine tk 6 ?_
       refine tk 7 ?_
       refine tr 8 fun K hK=>?_
       go_simp
       refine hK.out _ _ ?Lr (fun hHeld=>?_)
       case Lr=>(exact Below.alloc hHeld hHeld.size _)
       clear hK K
       try simp only [Act.put,la,lz,ls]
       refine tr 9 fun K hK=>?_
       refine bF (cs:=aj) (by first | exact Held.new _ aj 33 | exact (Held.new w6 aj 33).below hb8 | exact ((Held.newAt _ aj 33 (by simp)).drew.below hb6).below hb8 | exact (((Held.newAt _ aj 33 rfl).alloc _).drew.below hb6).below hb8) (aW M.uH A8 c8) rfl bW (dL _ _ _) (.tmp 17) (.tmp 159) rfl rfl rfl ?_
       refine hK.out _ _ ?LC (fun hHeld=>?_)
       case LC=>(exact below_setCells _ (by first | exact Nat.le_refl _ | exact iR | exact iY | exact Nat.le_succ _) _ _ _ _ hHeld)
       clear hK K
       try simp only [Act.put,la,lz,ls]
       refine tk 10 ?_
       refine tk 11 ?_
       refine wpAnyH_done (by kernel_rfl) ?_ _
       refine HK.out _ _ ?_
       apply HN.out
       refine ⟨rfl,rfl,rfl,hR.below hHeld,?_,rfl⟩
       · refine ⟨_,A8,c8,rfl,?_,?_⟩
         · refine Nat.le_trans hR.sz ?_
           first | exact iR | exact iY | exact Nat.le_refl _ | exact Nat.le_succ _
         · refine Held.whole (cs:=aj) ?_ _ rfl
           first | exact Held.new _ aj 33 | exact (Held.new w6 aj 33).below hb8 | exact ((Held.newAt _ aj 33 (by simp)).drew.below hb6).below hb8 | exact (((Held.newAt _ aj 33 rfl).alloc _).drew.below hb6).below hb8
     · go_simp
       refine hK.out _ _ ?Ls (fun hHeld=>?_)
       case Ls=>(exact Below.alloc hHeld hHeld.size _)
       clear hK K
       try simp only [Act.put,la,lz,ls]
       refine tr 3 fun K hK=>?_
       go_simp
       first | (go_at_call 62;refine (dI M.xM M.Ai 4 M.tC rfl (by omega) (by decide) (by first | exact Reads.dV _ _ 4 1 _ rfl (by omega) (fun _=>True) trivial | exact Reads.alloc (Reads.dV _ _ 4 1 _ rfl (by omega) (fun _=>True) trivial) _ | exact Reads.drew (Reads.newAt _ _ 4 1 _ _ rfl (by omega) (fun _=>True) trivial (by simp)) | exact Reads.drew (Reads.alloc (Reads.newAt _ _ 4 1 _ _ rfl (by omega) (fun _=>True) trivial rfl) _))).mono ?_;rintro e w6 ⟨l6,A6,c6,iQ,rfl,kP,hb6⟩;have iR:W.heap.size≤w6.heap.size:=Nat.le_trans hHeld.size hb6.size;have dD:=(kP.read (by rw [iQ.2];omega)).more (S':=fun _=>True) (fun _ _ _=>trivial)) | (go_at_call 18;refine (cO (S:=fun _=>True) M.uH M.bV.2.1 M.dn.2.2.1 M.lV iQ (by first | exact dD | exact dD.below ((Below.refl _ _).alloc (Nat.le_refl _) _))).mono ?_;rintro e w8 ⟨A8,c8,A9,k9,c9,rfl,hb8⟩;have iY:W.heap.size≤w8.heap.size:=Nat.le_trans hHeld.size hb8.size)
       refine hK.out _ _ ?Le (fun hHeld=>?_)
       case Le=>(exact hHeld.trans (hb8.mono hHeld.size))
       clear hK K
       try simp only [Act.put,la,lz,ls]
       refine tk 4 ?_
       refine tk 5 ?_
       refine tk 6 ?_
       refine tk 7 ?_
       refine tr 9 fun K hK=>?_
       refine bF (cs:=aj) (by first | exact Held.new _ aj 33 | exact (Held.new w6 aj 33).below hb8 | exact ((Held.newAt _ aj 33 (by simp)).drew.below hb6).below hb8 | exact (((Held.newAt _ aj 33 rfl).alloc _).drew.below hb6).below hb8) (aW M.uH A8 c8) rfl bW (dL _ _ _) (.tmp 17) (.tmp 159) rfl rfl rfl ?_
       refine hK.out _ _ ?LD (fun hHeld=>?_)
       case LD=>(exact below_setCells _ (by first | exact Nat.le_refl _ | exact iR | exact iY | exact Nat.le_succ _) _ _ _ _ hHeld)
       clear hK K
       try simp only [Act.put,la,lz,ls]
       refine tk 10 ?_
       refine tk 11 ?_
       refine wpAnyH_done (by kernel_rfl) ?_ _
       refine HK.out _ _ ?_
       apply HN.out
       refine ⟨rfl,rfl,rfl,hR.below hHeld,?_,rfl⟩
       · refine ⟨_,A8,c8,rfl,?_,?_⟩
         · refine Nat.le_trans hR.sz ?_
           first | exact iR | exact iY | exact Nat.le_refl _ | exact Nat.le_succ _
         · refine Held.whole (cs:=aj) ?_ _ rfl
           first | exact Held.new _ aj 33 | exact (Held.new w6 aj 33).below hb8 | exact ((Held.newAt _ aj 33 (by simp)).drew.below hb6).below hb8 | exact (((Held.newAt _ aj 33 rfl).alloc _).drew.below hb6).below hb8
   · go_simp
     refine hK.out _ _ ?Lu (fun hHeld=>?_)
     case Lu=>(exact Below.alloc hHeld hHeld.size _)
     clear hK K
     try simp only [Act.put,la,lz,ls]
     refine tr 2 fun K hK=>?_
     go_simp
     first | (go_at_call 62;refine (dI M.xM M.Ai 4 M.tC rfl (by omega) (by decide) (by first | exact Reads.dV _ _ 4 1 _ rfl (by omega) (fun _=>True) trivial | exact Reads.alloc (Reads.dV _ _ 4 1 _ rfl (by omega) (fun _=>True) trivial) _ | exact Reads.drew (Reads.newAt _ _ 4 1 _ _ rfl (by omega) (fun _=>True) trivial (by simp)) | exact Reads.drew (Reads.alloc (Reads.newAt _ _ 4 1 _ _ rfl (by omega) (fun _=>True) trivial rfl) _))).mono ?_;rintro e w6 ⟨l6,A6,c6,iQ,rfl,kP,hb6⟩;have iR:W.heap.size≤w6.heap.size:=Nat.le_trans hHeld.size hb6.size;have dD:=(kP.read (by rw [iQ.2];omega)).more (S':=fun _=>True) (fun _ _ _=>trivial)) | (go_at_call 18;refine (cO (S:=fun _=>True) M.uH M.bV.2.1 M.dn.2.2.1 M.lV iQ (by first | exact dD | exact dD.below ((Below.refl _ _).alloc (Nat.le_refl _) _))).mono ?_;rintro e w8 ⟨A8,c8,A9,k9,c9,rfl,hb8⟩;have iY:W.heap.size≤w8.heap.size:=Nat.le_trans hHeld.size hb8.size)
     refine hK.out _ _ ?KX (fun hHeld=>?_)
     case KX=>(exact hHeld.trans (hb6.mono hHeld.size))
     clear hK K
     try simp only [Act.put,la,lz,ls]
     refine tr 3 fun K hK=>?_
     go_simp
     first | (go_at_call 62;refine (dI M.xM M.Ai 4 M.tC rfl (by omega) (by decide) (by first | exact Reads.dV _ _ 4 1 _ rfl (by omega) (fun _=>True) trivial | exact Reads.alloc (Reads.dV _ _ 4 1 _ rfl (by omega) (fun _=>True) trivial) _ | exact Reads.drew (Reads.newAt _ _ 4 1 _ _ rfl (by omega) (fun _=>True) trivial (by simp)) | exact Reads.drew (Reads.alloc (Reads.newAt _ _ 4 1 _ _ rfl (by omega) (fun _=>True) trivial rfl) _))).mono ?_;rintro e w6 ⟨l6,A6,c6,iQ,rfl,kP,hb6⟩;have iR:W.heap.size≤w6.heap.size:=Nat.le_trans hHeld.size hb6.size;have dD:=(kP.read (by rw [iQ.2];omega)).more (S':=fun _=>True) (fun _ _ _=>trivial)) | (go_at_call 18;refine (cO (S:=fun _=>True) M.uH M.bV.2.1 M.dn.2.2.1 M.lV iQ (by first | exact dD | exact dD.below ((Below.refl _ _).alloc (Nat.le_refl _) _))).mono ?_;rintro e w8 ⟨A8,c8,A9,k9,c9,rfl,hb8⟩;have iY:W.heap.size≤w8.heap.size:=Nat.le_trans hHeld.size hb8.size)
     refine hK.out _ _ ?Lh (fun hHeld=>?_)
     case Lh=>(exact hHeld.trans (hb8.mono hHeld.size))
     clear hK K
     try simp only [Act.put,la,lz,ls]
     refine tk 4 ?_
     refine tk 5 ?_
     refine tk 6 ?_
     refine tk 7 ?_
     refine tr 9 fun K hK=>?_
     refine bF (cs:=aj) (by first | exact Held.new _ aj 33 | exact (Held.new w6 aj 33).below hb8 | exact ((Held.newAt _ aj 33 (by simp)).drew.below hb6).below hb8 | exact (((Held.newAt _ aj 33 rfl).alloc _).drew.below hb6).below hb8) (aW M.uH A8 c8) rfl bW (dL _ _ _) (.tmp 17) (.tmp 159) rfl rfl rfl ?_
     refine hK.out _ _ ?LG (fun hHeld=>?_)
     case LG=>(exact below_setCells _ (by first | exact Nat.le_refl _ | exact iR | exact iY | exact Nat.le_succ _) _ _ _ _ hHeld)
     clear hK K
     try simp only [Act.put,la,lz,ls]
     refine tk 10 ?_
     refine tk 11 ?_
     refine wpAnyH_done (by kernel_rfl) ?_ _
     refine HK.out _ _ ?_
     apply HN.out
     refine ⟨rfl,rfl,rfl,hR.below hHeld,?_,rfl⟩
     · refine ⟨_,A8,c8,rfl,?_,?_⟩
       · refine Nat.le_trans hR.sz ?_
         first | exact iR | exact iY | exact Nat.le_refl _ | exact Nat.le_succ _
       · refine Held.whole (cs:=aj) ?_ _ rfl
         first | exact Held.new _ aj 33 | exact (Held.new w6 aj 33).below hb8 | exact ((Held.newAt _ aj 33 (by simp)).drew.below hb6).below hb8 | exact (((Held.newAt _ aj 33 rfl).alloc _).drew.below hb6).below hb8
 · go_simp
   refine hK.out _ _ ?I5 (fun hHeld=>?_)
   case I5=>(exact Below.alloc hHeld hHeld.size _)
   clear hK K
   try simp only [Act.put,la,lz,ls]
   refine tr 1 fun K hK=>?_
   go_simp
   refine hK.out _ _ ?II (fun hHeld=>?_)
   case II=>(exact Below.alloc hHeld hHeld.size _)
   clear hK K
   try simp only [Act.put,la,lz,ls]
   refine tr 2 fun K hK=>?_
   go_simp
   first | (go_at_call 62;refine (dI M.xM M.Ai 4 M.tC rfl (by omega) (by decide) (by first | exact Reads.dV _ _ 4 1 _ rfl (by omega) (fun _=>True) trivial | exact Reads.alloc (Reads.dV _ _ 4 1 _ rfl (by omega) (fun _=>True) trivial) _ | exact Reads.drew (Reads.newAt _ _ 4 1 _ _ rfl (by omega) (fun _=>True) trivial (by simp)) | exact Reads.drew (Reads.alloc (Reads.newAt _ _ 4 1 _ _ rfl (by omega) (fun _=>True) trivial rfl) _))).mono ?_;rintro e w6 ⟨l6,A6,c6,iQ,rfl,kP,hb6⟩;have iR:W.heap.size≤w6.heap.size:=Nat.le_trans hHeld.size hb6.size;have dD:=(kP.read (by rw [iQ.2];omega)).more (S':=fun _=>True) (fun _ _ _=>trivial)) | (go_at_call 18;refine (cO (S:=fun _=>True) M.uH M.bV.2.1 M.dn.2.2.1 M.lV iQ (by first | exact dD | exact dD.below ((Below.refl _ _).alloc (Nat.le_refl _) _))).mono ?_;rintro e w8 ⟨A8,c8,A9,k9,c9,rfl,hb8⟩;have iY:W.heap.size≤w8.heap.size:=Nat.le_trans hHeld.size hb8.size)
   refine hK.out _ _ ?IJ (fun hHeld=>?_)
   case IJ=>(exact hHeld.trans (hb6.mono hHeld.size))
   clear hK K
   try simp only [Act.put,la,lz,ls]
   refine tr 3 fun K hK=>?_
   go_simp
   first | (go_at_call 62;refine (dI M.xM M.Ai 4 M.tC rfl (by omega) (by decide) (by first | exact Reads.dV _ _ 4 1 _ rfl (by omega) (fun _=>True) trivial | exact Reads.alloc (Reads.dV _ _ 4 1 _ rfl (by omega) (fun _=>True) trivial) _ | exact Reads.drew (Reads.newAt _ _ 4 1 _ _ rfl (by omega) (fun _=>True) trivial (by simp)) | exact Reads.drew (Reads.alloc (Reads.newAt _ _ 4 1 _ _ rfl (by omega) (fun _=>True) trivial rfl) _))).mono ?_;rintro e w6 ⟨l6,A6,c6,iQ,rfl,kP,hb6⟩;have iR:W.heap.size≤w6.heap.size:=Nat.le_trans hHeld.size hb6.size;have dD:=(kP.read (by rw [iQ.2];omega)).more (S':=fun _=>True) (fun _ _ _=>trivial)) | (go_at_call 18;refine (cO (S:=fun _=>True) M.uH M.bV.2.1 M.dn.2.2.1 M.lV iQ (by first | exact dD | exact dD.below ((Below.refl _ _).alloc (Nat.le_refl _) _))).mono ?_;rintro e w8 ⟨A8,c8,A9,k9,c9,rfl,hb8⟩;have iY:W.heap.size≤w8.heap.size:=Nat.le_trans hHeld.size hb8.size)
   refine hK.out _ _ ?IL (fun hHeld=>?_)
   case IL=>(exact hHeld.trans (hb8.mono hHeld.size))
   clear hK K
   try simp only [Act.put,la,lz,ls]
   refine tk 4 ?_
   refine tk 5 ?_
   refine tk 6 ?_
   refine tk 7 ?_
   refine tr 9 fun K hK=>?_
   refine bF (cs:=aj) (by first | exact Held.new _ aj 33 | exact (Held.new w6 aj 33).below hb8 | exact ((Held.newAt _ aj 33 (by simp)).drew.below hb6).below hb8 | exact (((Held.newAt _ aj 33 rfl).alloc _).drew.below hb6).below hb8) (aW M.uH A8 c8) rfl bW (dL _ _ _) (.tmp 17) (.tmp 159) rfl rfl rfl ?_
   refine hK.out _ _ ?I7 (fun hHeld=>?_)
   case I7=>(exact below_setCells _ (by first | exact Nat.le_refl _ | exact iR | exact iY | exact Nat.le_succ _) _ _ _ _ hHeld)
   clear hK K
   try simp only [Act.put,la,lz,ls]
   refine tk 10 ?_
   refine tk 11 ?_
   refine wpAnyH_done (by kernel_rfl) ?_ _
   refine HK.out _ _ ?_
   apply HN.out
   refine ⟨rfl,rfl,rfl,hR.below hHeld,?_,rfl⟩
   · refine ⟨_,A8,c8,rfl,?_,?_⟩
     · refine Nat.le_trans hR.sz ?_
       first | exact iR | exact iY | exact Nat.le_refl _ | exact Nat.le_succ _
     · refine Held.whole (cs:=aj) ?_ _ rfl
       first | exact Held.new _ aj 33 | exact (Held.new w6 aj 33).below hb8 | exact ((Held.newAt _ aj 33 (by simp)).drew.below hb6).below hb8 | exact (((Held.newAt _ aj 33 rfl).alloc _).drew.below hb6).below hb8
end Go.Proofs.YtelpepbpdojikaaGreatDoor
