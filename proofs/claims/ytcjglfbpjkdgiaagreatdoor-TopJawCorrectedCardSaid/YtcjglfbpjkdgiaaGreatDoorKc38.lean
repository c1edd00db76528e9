/- Parts of a proof. -/
import Derived.Test.YtcjglfbpjkdgiaaGreatDoorKc28
import Derived.Test.YtcjglfbpjkdgiaaGreatDoorKc3
set_option maxHeartbeats 16000000
set_option maxRecDepth 100000
set_option linter.unusedVariables false
set_option linter.unusedSimpArgs false
namespace Go.Proofs.YtcjglfbpjkdgiaaGreatDoor
open Go.RowKit
theorem Reads.agf (W:World) (t:TypeId) (n size:Nat) (cs:List Value) (hl:cs.length=n*size) (hn:n≤1000) (S:Nat→Prop) (hS:S W.heap.size):Reads (W.alloc (.cells cs.toArray t)) S size (some ⟨W.heap.size,0,none⟩) n n cs:=
 ⟨Nat.le_refl _,by omega,by omega,hl,fun _=>⟨W.heap.size,0,rfl,hS,by simp,fun j u hu=>by
  have:=dV W t cs W.heap.size rfl j u hu
  rwa [jP] at this⟩⟩
section
variable {r:M.Rules} {ls:List M.aV} {l:List Sh} {n:Nat} {A:Option Addr} {c:Nat} {S:Nat→Prop} {W:World}
end
theorem Np (g:ByteArray) (a b:Int):∀ v∈[Value.string g,.int .i64 a,.int .i64 b],v.oneCell'=true:=by simp [Value.oneCell']
section
variable {w W W':World} {D:Nat} {v:Value}
end
section
variable {D0 D:Nat} {W W1 W2 w:World} {v:Value}
end
theorem Reads.newAt (W:World) (t:TypeId) (n size g:Nat) (cs:List Value) (hl:cs.length=n*size) (hn:n≤1000) (S:Nat→Prop) (hS:S g) (hg:W.heap.size=g):Reads (W.alloc (.cells cs.toArray t)) S size (some ⟨g,0,none⟩) n n cs:=by
 subst hg;exact Reads.agf W t n size cs hl hn S hS
theorem Held.grown {W W':World} {g:Nat} {cs:List Value} {t:TypeId} {row:Option Nat} (h:Held W g cs t) (hg:W.grownBy W' row) (hne:row=some g→False):Held W' g cs t:=(hg.block g h.lt (fun e=>hne e.symm)).trans h
theorem Reads.over {W X:World} {S:Nat→Prop} {size n c g o:Nat} {A:Option Addr} {xs vs:List Value} (h:Reads W S size A n c xs) (hb:Below W.heap.size W X) (hg:∀ b,b<W.heap.size→S b→b≠g):Reads (X.setCells g o vs) S size A n c xs:=
 h.keep (by rw [setCells_size];exact hb.size) fun b i hs hl=>(jc _ _ _ _ (hg b hl hs)).trans (hb.cell (p:=⟨b,i,none⟩) hl)
theorem H7 (W:World) (s:ByteArray) (k:Nat):Below W.heap.size W (W.iter s k):=(Below.refl _ _).alloc (Nat.le_refl _) _
theorem X9 {W0 W W':World} (h:Below W0.heap.size W0 W) (hb:Below W.heap.size W W'):Below W0.heap.size W0 W':=h.trans (hb.mono h.size)
def vZ (s:M.State) (t:TypeId) (v:Value) (W:World):Prop:=∃ B A c,v=ptr B∧Held W B (aO s A c) t∧bT W (fun _=>True) A c s.aA
theorem vZ.below {s:M.State} {t:TypeId} {v:Value} {W W':World} (h:vZ s t v W) (hb:Below W.heap.size W W'):vZ s t v W':=by
 obtain ⟨B,A,c,h1,h2,h3⟩:=h;exact ⟨B,A,c,h1,h2.below hb,h3.below hb⟩
theorem vZ.new {s:M.State} {t:TypeId} {A:Option Addr} {c:Nat} {S:Nat→Prop} {w1:World} (hr:bT w1 S A c s.aA) (hbx:Held (w1.alloc (.cells aZ.toArray t)) w1.heap.size aZ t):
 vZ s t (ptr w1.heap.size) ((w1.alloc (.cells aZ.toArray t)).setCells w1.heap.size 0 (aO s A c))∧Below w1.heap.size w1 ((w1.alloc (.cells aZ.toArray t)).setCells w1.heap.size 0 (aO s A c)):=by
 have hb:Below w1.heap.size w1 ((w1.alloc (.cells aZ.toArray t)).setCells w1.heap.size 0 (aO s A c)):=below_setCells _ (Nat.le_refl _) _ _ _ _ ((Below.refl _ _).alloc (Nat.le_refl _) _);exact ⟨⟨w1.heap.size,A,c,rfl,hbx.whole _ rfl,bT.more (hr.below hb) (fun _ _ _=>trivial)⟩,hb⟩
theorem Nw (r:M.Rules) (l:List Sh) (k:Nat):M.fH r (plain l) k=jE r l k:=by
 unfold M.fH jE plain
 rw [List.map_take]
theorem yx {P:Program} {w:World} {g:Nat} {u:Value} {t ty:TypeId} {d:TypeDesc} (h:Held w g [u] t) (hu:P.underlying ty=some d) (hd:d.isRow=false):(loadVar ty ⟨g,0,none⟩).run P w= .ok u w:=by
 have hc:=h.cell (j:=0) rfl
 have hagg:(isAgg ty).run P w= .ok false w:=by
  unfold isAgg
  rw [Sem.run_bind,run_underlying hu w]
  cases d <;> simp_all [TypeDesc.isRow]
 simp [loadVar,Sem.run_bind,hagg,hc]
section
variable {r:M.Rules} {l:List Sh} {C:List (Int × Int)} {A1:Option Addr} {c1:Nat} {w:World} {D:Nat}
end
def Yb (r:M.Rules) (a b:List Sh) (n:Nat):Bool:=(M.fH r (plain a) n).eq (M.fH r (plain b) n)
theorem KL (r:M.Rules) (a b:List Sh):M.changed r (plain a) (plain b)=M.jm (Yb r a b) 1 (max a.length b.length):=by unfold M.changed;rw [aU,aU];rfl
noncomputable def yI (n:Nat):Code:=dG n ((Tryz.f11).body.getD .skip)
@[reducible] def KD (r:M.Rules) (a b:List Sh) (A B:Option Addr) (c d:Nat) (w:World) (F:Value→Value→Value→Value→Value→Value→Value→World→Prop) (n:Nat):Prop:=∀ (z0 z1 z2 z3 z4 z5 z6 z7 z8 z9 z10 z11 z12 z13 pG pI qj z17 qU rY z20 z21 z22 z23 z24 z25 z26 z27 z28 z29 z30 z31 z32 z33 z34 z35 z36 z37 z38 z39 z40 z41 z42 z43 z44 z45 z46 z47 z48 z49 z50 z51 z52 z53 z54 z55 z56 z57 z58 z59 z60 z61 z62 z63 z64 z65 z66:Value) (W:World),F z1 z2 z3 z9 z10 z11 z12 W→(yI n).wp Tryz.prog (bodyPost Tryz.prog Tryz.f11 (fun e w'=>e= .returned (.tuple #[.int .i64 (M.changed r (plain a) (plain b)),.int .i64 0])∧Below w.heap.size w w')) {tmps:= #[z0,z1,z2,z3,z4,z5,z6,z7,z8,z9,z10,z11,z12,z13,pG,pI,qj,z17,qU,rY,z20,z21,z22,z23,z24,z25,z26,z27,z28,z29,z30,z31,z32,z33,z34,z35,z36,z37,z38,z39,z40,z41,z42,z43,z44,z45,z46,z47,z48,z49,z50,z51,z52,z53,z54,z55,z56,z57,z58,z59,z60,z61,z62,z63,z64,z65,z66],defers:=[] } W
@[reducible] def Vk (r:M.Rules) (a b:List Sh) (A B:Option Addr) (c d:Nat) (w:World):Prop:=KD r a b A B c d w (fun z1 z2 z3 _ _ _ _ W=>z1= .slice A a.length c∧z2= .slice B b.length d∧z3=ptr w.heap.size∧Held W w.heap.size ([.string r.game,.int .i64 r.target,.int .i64 r.bG]) 23∧Below w.heap.size w W) 2
@[reducible] def Oo (r:M.Rules) (a b:List Sh) (A B:Option Addr) (c d:Nat) (w:World):Prop:=KD r a b A B c d w (fun _ _ z3 z9 z10 _ _ W=>(∃ L A c,z9= .slice A (L:List BG).length c∧L.length=a.length∧Ou r a L∧Hy W (fun b=>True) A c L)∧(∃ L A c,z10= .slice A (L:List BG).length c∧L.length=b.length∧Ou r b L∧Hy W (fun b=>True) A c L)∧z3=ptr w.heap.size∧Held W w.heap.size ([.string r.game,.int .i64 r.target,.int .i64 r.bG]) 23∧Below w.heap.size w W) 3
@[reducible] def Oq (r:M.Rules) (a b:List Sh) (A B:Option Addr) (c d:Nat) (w:World):Prop:=KD r a b A B c d w (fun _ _ _ z9 z10 z11 z12 W=>∃ p q,(∃ L A c,z9= .slice A (L:List BG).length c∧L.length=a.length∧Ou r a L∧Hy W (fun b=>b≠p∧b≠q) A c L)∧(∃ L A c,z10= .slice A (L:List BG).length c∧L.length=b.length∧Ou r b L∧Hy W (fun b=>b≠p∧b≠q) A c L)∧z11=ptr p∧z12=ptr q∧p≠q∧w.heap.size≤p∧w.heap.size≤q∧(∃ As cs,Held W p (aO (M.start r) As cs) 53∧bT W (fun b=>b≠p∧b≠q) As cs (M.start r).aA)∧(∃ As cs,Held W q (aO (M.start r) As cs) 53∧bT W (fun b=>b≠p∧b≠q) As cs (M.start r).aA)∧Below w.heap.size w W) 4
theorem Ec {r:M.Rules} {l:List Sh} {L:List BG} {S:Nat→Prop} {A:Option Addr} {c:Nat} {W:World} (hl:L.length=l.length) (hg:Ou r l L) (hr:Hy W S A c L) {k:Nat} (hk:k<l.length):
 ∃ b o As cs,A=some ⟨b,o,none⟩∧S b∧b<W.heap.size∧W.rangeAt b (o+k*15) (aO (M.fH r (plain l) (k+1)) As cs)∧bT W S As cs (M.fH r (plain l) (k+1)).aA:=by
 obtain ⟨b,o,e,hS,hb,hc⟩:=Reads.at_ hr.1 (by omega)
 have Pn:k<L.length:=by omega
 have hs:=(hg k Pn).trans (Nw r l (k+1)).symm;have hrg:=sK Vd hc k Pn;have hb2:=hr.2 _ (List.getElem_mem Pn);rw [hs] at hb2
 have he:Tv L[k]=aO (M.fH r (plain l) (k+1)) L[k].a L[k].c:=by unfold Tv;rw [hs]
 rw [he] at hrg;exact ⟨b,o,_,_,e,hS,hb,hrg,hb2⟩
theorem CS {r:M.Rules} {l:List Sh} {k:Nat} (hk:¬ k<l.length):M.fH r (plain l) (k+1)=M.fH r (plain l) k:=by
 unfold M.fH
 rw [List.take_of_length_le (by rw [aU];omega),List.take_of_length_le (by rw [aU];omega)]
theorem Hy.turn {X:Nat→Prop} {W W':World} {S:Nat→Prop} {A:Option Addr} {c:Nat} {L:List BG} (h:Hy W S A c L) (ht:Turn X W W') (hX:∀ b,S b→¬ X b):Hy W' S A c L:=
 ⟨Reads.turn h.1 ht hX,fun e he=>Reads.turn (h.2 e he) ht hX⟩
structure ChI (r:M.Rules) (a b:List Sh) (p q k:Nat) (W wr:World):Prop where
 t:Turn (fun b=>b=p∨b=q) W wr
 x:∃ As cs,Held wr p (aO (M.fH r (plain a) k) As cs) 53∧bT wr (fun b=>b≠p∧b≠q) As cs (M.fH r (plain a) k).aA
 y:∃ As cs,Held wr q (aO (M.fH r (plain b) k) As cs) 53∧bT wr (fun b=>b≠p∧b≠q) As cs (M.fH r (plain b) k).aA
theorem Zg (r:M.Rules) (a b:List Sh) (A B:Option Addr) (c d:Nat) (w:World) (HR:Hid (M.bP r=0∧M.dB (plain a)=0∧M.dB (plain b)=0)) (HP:Hid (jF w (fun b=>b<w.heap.size) A c a∧jF w (fun b=>b<w.heap.size) B d b)) (HN:Hid (Oo r a b A B c d w)):Vk r a b A B c d w:=by
 dsimp only [Vk,KD]
 intros
 rename_i W hf
 dsimp only [yI,dG,Tryz.f11,Option.getD]
 obtain ⟨rfl,rfl,rfl,h3,hbw⟩:=hf;have hsa:=fun W' (h:Below w.heap.size w W')=>xE _ r a A c W' (HP.out.1.below h) HR.out.1 HR.out.2.1;have hsb:=fun W' (h:Below w.heap.size w W')=>xE _ r b B d W' (HP.out.2.below h) HR.out.1 HR.out.2.2;have HSA:=hide hsa;have Ho:=hide hsb;have Us:∀ W',(fun w':World=>Below W.heap.size W w') W'→W'.rangeAt w.heap.size 0 ([.string r.game,.int .i64 r.target,.int .i64 r.bG]):=fun W' h=>(h3.below h).range;clear hsa hsb;apply wp_seq_k;intro K hK;have HK:=hide hK;clear hK;refine wp_region_held_drew (S:=(fun w':World=>Below W.heap.size W w')) (by kernel_rfl) ?dS (fun hHeld=>?_)
 case dS=>exact (Below.refl _ _).drew
 refine kL 0 Us Tryz.underlying23 ?_;refine tk 1 ?_;refine kL 3 Us Tryz.underlying23 ?_;refine tk 4 ?_;refine tr 2 fun K hK=>?_;go_simp
 (go_at_call 35;refine (HSA.out _ (hbw.trans (hHeld.mono hbw.size))).mono ?_;rintro e wa ⟨La,A1,c1,rfl,YB,hga,hra,hba⟩;have hla:=hide YB;clear YB)
 refine bZ hK (hHeld.trans (hba.mono hHeld.size)) fun hHeld=>?_;clear hK K;refine tr 5 fun K hK=>?_;go_simp
 (go_at_call 35;refine (Ho.out _ (hbw.trans (hHeld.mono hbw.size))).mono ?_;rintro e wb ⟨Lb,A2,c2,rfl,YC,hgb,hrb,hbb⟩;have hlb:=hide YC;clear YC)
 refine bZ hK (hHeld.trans (hbb.mono hHeld.size)) fun hHeld=>?_;clear hK K;refine tk 6 ?_;refine tk 7 ?_;refine wpAnyH_done (by kernel_rfl) ?_ _;refine HK.out _ _ ?_;apply HN.out;exact ⟨⟨La,A1,c1,rfl,hla.out,hga,(hra.below hbb).more (fun _ _ _=>trivial)⟩,⟨Lb,A2,c2,rfl,hlb.out,hgb,hrb.more (fun _ _ _=>trivial)⟩,rfl,h3.below hHeld,hbw.trans (hHeld.mono hbw.size)⟩
theorem Zh (r:M.Rules) (a b:List Sh) (A B:Option Addr) (c d:Nat) (w:World) (HR:Hid (M.bP r=0∧M.dB (plain a)=0∧M.dB (plain b)=0)) (HP:Hid (jF w (fun b=>b<w.heap.size) A c a∧jF w (fun b=>b<w.heap.size) B d b)) (HN:Hid (Oq r a b A B c d w)):Oo r a b A B c d w:=by
 dsimp only [Oo,KD]
 intro z0 z1 z2 _ z4 z5 z6 z7 z8 z9 z10 _ _ z13 pG pI qj z17 qU rY z20 z21 z22 z23 z24 z25 z26 z27 z28 z29 _ _ _ _ _ _ z36 z37 z38 z39 z40 z41 z42 z43 z44 z45 z46 z47 z48 z49 z50 z51 z52 z53 z54 z55 z56 z57 z58 z59 z60 z61 z62 z63 z64 z65 z66 W hf
 dsimp only [yI,dG,Tryz.f11,Option.getD]
 obtain ⟨h9,h10,rfl,h3,hbw⟩:=hf;have Us:∀ W',(fun w':World=>Below W.heap.size W w') W'→W'.rangeAt w.heap.size 0 ([.string r.game,.int .i64 r.target,.int .i64 r.bG]):=fun W' h=>(h3.below h).range;have hfs:=EN;apply wp_seq_k;intro K hK;have HK:=hide hK;clear hK;refine wp_region_held_drew (S:=(fun w':World=>Below W.heap.size W w')) (by kernel_rfl) ?eU (fun hHeld=>?_)
 case eU=>exact (Below.refl _ _).drew
 refine LU (fun f hf=>?_)
 have J:∀ (p q:Nat) (A1 A2:Option Addr) (c1 c2:Nat) (wx:World),Held wx p aZ 53→Held wx q aZ 53→p≠q→W.heap.size≤p→W.heap.size≤q→(fun w':World=>Below W.heap.size W w') wx→
  bT wx (fun b=>b≠p∧b≠q) A1 c1 (M.start r).aA→bT wx (fun b=>b≠p∧b≠q) A2 c2 (M.start r).aA→f 2 #[true,true,true,true,true,true,true,true,false,false] {tmps:= #[z0,z1,z2,ptr w.heap.size,z4,z5,z6,z7,z8,z9,z10,ptr p,ptr q,z13,pG,pI,qj,z17,qU,rY,z20,z21,z22,z23,z24,z25,z26,z27,z28,z29,.agg ([.string r.game,.int .i64 r.target,.int .i64 r.bG]:List Value).toArray,dP r (M.start r) A1 c1,.agg (aO (M.start r) A1 c1).toArray,.agg ([.string r.game,.int .i64 r.target,.int .i64 r.bG]:List Value).toArray,dP r (M.start r) A2 c2,.agg (aO (M.start r) A2 c2).toArray,z36,z37,z38,z39,z40,z41,z42,z43,z44,z45,z46,z47,z48,z49,z50,z51,z52,z53,z54,z55,z56,z57,z58,z59,z60,z61,z62,z63,z64,z65,z66],defers:=[] } wx:=by
  intro p q A1 A2 c1 c2 wx gp gq UK lp lq hHeld hra hrb;subst hf;have hHeld:(fun w':World=>Below W.heap.size W w') (wx.setCells p 0 (aO (M.start r) A1 c1)):=below_setCells _ lp _ _ _ _ hHeld;refine wpAnyH_ready (rs:=[8]) (by kernel_rfl) (by simp) ?_;refine dA (o:=_) (ga rfl) (by kernel_rfl) gp (aO (M.start r) A1 c1) rfl bF (fD _ _ _) (.tmp 11) (.tmp 32) rfl rfl rfl hHeld ?_
  try simp only [Act.put,la,lz,ls]
  have hHeld:(fun w':World=>Below W.heap.size W w') ((wx.setCells p 0 (aO (M.start r) A1 c1)).setCells q 0 (aO (M.start r) A2 c2)):=below_setCells _ lq _ _ _ _ hHeld;refine wpAnyH_ready (rs:=[9]) (by kernel_rfl) (by simp) ?_;refine dA (o:=_) (ga rfl) (by kernel_rfl) (Held.others UK.symm _ _ _ gq) (aO (M.start r) A2 c2) rfl bF (fD _ _ _) (.tmp 12) (.tmp 35) rfl rfl rfl hHeld ?_
  try simp only [Act.put,la,lz,ls]
  refine wpAnyH_done (by kernel_rfl) ?_ _;refine HK.out _ _ ?_;apply HN.out;have hb0:Below W.heap.size W ((wx.setCells p 0 (aO (M.start r) A1 c1)).setCells q 0 (aO (M.start r) A2 c2)):=hHeld;refine ⟨p,q,?_,?_,rfl,rfl,UK,by have:=hbw.size;omega,by have:=hbw.size;omega,⟨A1,c1,Held.others UK _ _ _ (gp.whole _ rfl),bT.sets (fun h=>h.2 rfl) _ _ _ (bT.sets (fun h=>h.1 rfl) _ _ _ hra)⟩,⟨A2,c2,(Held.others UK.symm _ _ _ gq).whole _ rfl,bT.sets (fun h=>h.2 rfl) _ _ _ (bT.sets (fun h=>h.1 rfl) _ _ _ hrb)⟩,X9 hbw hb0⟩
  · obtain ⟨L,A0,c0,e,hl,hg,hr⟩:=h9
    exact ⟨L,A0,c0,e,hl,hg,(hr.more (S':=fun b=>b<W.heap.size) (fun b hb _=>hb)).below hb0 |>.more (fun b _ h=>by constructor <;> omega)⟩
  · obtain ⟨L,A0,c0,e,hl,hg,hr⟩:=h10
    exact ⟨L,A0,c0,e,hl,hg,(hr.more (S':=fun b=>b<W.heap.size) (fun b hb _=>hb)).below hb0 |>.more (fun b _ h=>by constructor <;> omega)⟩
 rw [hf] at J;subst hf;refine kL 0 Us Tryz.underlying23 ?_;refine kL 3 Us Tryz.underlying23 ?_;refine Kw 1 6 7 (fun K hK=>?_) (fun K hK=>?_) fun K hK=>?_
 · go_simp
   (go_at_call 36;refine (eF r _).mono ?_;rintro e wa ⟨A1,c1,rfl,hra,hba⟩)
   refine bZ hK (hHeld.trans (hba.mono hHeld.size)) fun hHeld=>?_;clear hK K;refine tk 2 ?_;refine Kw 4 6 7 (fun K hK=>?_) (fun K hK=>?_) fun K hK=>?_
   · go_simp
     (go_at_call 36;refine (eF r _).mono ?_;rintro e wb ⟨A2,c2,rfl,hrb,hbb⟩)
     refine bZ hK (hHeld.trans (hbb.mono hHeld.size)) fun hHeld=>?_;clear hK K;refine tk 5 ?_;refine Am 6 7 (fun K hK=>?_) fun K hK=>?_
     · go_simp
       refine bZ hK (Below.alloc hHeld hHeld.size _) fun hHeld=>?_;clear hK K;refine tr 7 fun K hK=>?_;go_simp;refine bZ hK (Below.alloc hHeld hHeld.size _) fun hHeld=>?_;clear hK K;have hqa:=hba.size;have zG:=hbb.size
       (try simp at hqa zG)
       exact J _ _ A1 A2 c1 c2 _ ((Held.newAt _ aZ 53 (by first | rfl | simp)).alloc _) (Held.newAt _ aZ 53 (by first | rfl | simp)) (by (try simp);(try omega)) (by (try simp);(try omega)) (by (try simp);(try omega)) hHeld ((((Reads.more hra (fun b hl h=>by (try simp at h hl ⊢) <;> omega)).below hbb).alloc _).alloc _) (((Reads.more hrb (fun b hl h=>by (try simp at h hl ⊢) <;> omega)).alloc _).alloc _)
     · go_simp
       refine bZ hK (Below.alloc hHeld hHeld.size _) fun hHeld=>?_;clear hK K;refine tr 6 fun K hK=>?_;go_simp;refine bZ hK (Below.alloc hHeld hHeld.size _) fun hHeld=>?_;clear hK K;have hqa:=hba.size;have zG:=hbb.size
       (try simp at hqa zG)
       exact J _ _ A1 A2 c1 c2 _ (Held.newAt _ aZ 53 (by first | rfl | simp)) ((Held.newAt _ aZ 53 (by first | rfl | simp)).alloc _) (by (try simp);(try omega)) (by (try simp);(try omega)) (by (try simp);(try omega)) hHeld ((((Reads.more hra (fun b hl h=>by (try simp at h hl ⊢) <;> omega)).below hbb).alloc _).alloc _) (((Reads.more hrb (fun b hl h=>by (try simp at h hl ⊢) <;> omega)).alloc _).alloc _)
   · go_simp
     refine bZ hK (Below.alloc hHeld hHeld.size _) fun hHeld=>?_;clear hK K;refine Am 4 7 (fun K hK=>?_) fun K hK=>?_
     · go_simp
       (go_at_call 36;refine (eF r _).mono ?_;rintro e wb ⟨A2,c2,rfl,hrb,hbb⟩)
       refine bZ hK (hHeld.trans (hbb.mono hHeld.size)) fun hHeld=>?_;clear hK K;refine tk 5 ?_;refine tr 7 fun K hK=>?_;go_simp;refine bZ hK (Below.alloc hHeld hHeld.size _) fun hHeld=>?_;clear hK K;have hqa:=hba.size;have zG:=hbb.size
       (try simp at hqa zG)
       exact J _ _ A1 A2 c1 c2 _ (((Held.newAt _ aZ 53 (by first | rfl | simp)).below hbb).alloc _) (Held.newAt _ aZ 53 (by first | rfl | simp)) (by (try simp);(try omega)) (by (try simp);(try omega)) (by (try simp);(try omega)) hHeld ((((Reads.more hra (fun b hl h=>by (try simp at h hl ⊢) <;> omega)).alloc _).below hbb).alloc _) ((Reads.more hrb (fun b hl h=>by (try simp at h hl ⊢) <;> omega)).alloc _)
     · go_simp
       refine bZ hK (Below.alloc hHeld hHeld.size _) fun hHeld=>?_;clear hK K;refine tr 4 fun K hK=>?_;go_simp
       (go_at_call 36;refine (eF r _).mono ?_;rintro e wb ⟨A2,c2,rfl,hrb,hbb⟩)
       refine bZ hK (hHeld.trans (hbb.mono hHeld.size)) fun hHeld=>?_;clear hK K;refine tk 5 ?_;have hqa:=hba.size;have zG:=hbb.size
       (try simp at hqa zG)
       exact J _ _ A1 A2 c1 c2 _ (((Held.newAt _ aZ 53 (by first | rfl | simp)).alloc _).below hbb) ((Held.newAt _ aZ 53 (by first | rfl | simp)).below hbb) (by (try simp);(try omega)) (by (try simp);(try omega)) (by (try simp);(try omega)) hHeld ((((Reads.more hra (fun b hl h=>by (try simp at h hl ⊢) <;> omega)).alloc _).alloc _).below hbb) (Reads.more hrb (fun b hl h=>by (try simp at h hl ⊢) <;> omega))
   · go_simp
     refine bZ hK (Below.alloc hHeld hHeld.size _) fun hHeld=>?_;clear hK K;refine Am 4 6 (fun K hK=>?_) fun K hK=>?_
     · go_simp
       (go_at_call 36;refine (eF r _).mono ?_;rintro e wb ⟨A2,c2,rfl,hrb,hbb⟩)
       refine bZ hK (hHeld.trans (hbb.mono hHeld.size)) fun hHeld=>?_;clear hK K;refine tk 5 ?_;refine tr 6 fun K hK=>?_;go_simp;refine bZ hK (Below.alloc hHeld hHeld.size _) fun hHeld=>?_;clear hK K;have hqa:=hba.size;have zG:=hbb.size
       (try simp at hqa zG)
       exact J _ _ A1 A2 c1 c2 _ (Held.newAt _ aZ 53 (by first | rfl | simp)) (((Held.newAt _ aZ 53 (by first | rfl | simp)).below hbb).alloc _) (by (try simp);(try omega)) (by (try simp);(try omega)) (by (try simp);(try omega)) hHeld ((((Reads.more hra (fun b hl h=>by (try simp at h hl ⊢) <;> omega)).alloc _).below hbb).alloc _) ((Reads.more hrb (fun b hl h=>by (try simp at h hl ⊢) <;> omega)).alloc _)
     · go_simp
       refine bZ hK (Below.alloc hHeld hHeld.size _) fun hHeld=>?_;clear hK K;refine tr 4 fun K hK=>?_;go_simp
       (go_at_call 36;refine (eF r _).mono ?_;rintro e wb ⟨A2,c2,rfl,hrb,hbb⟩)
       refine bZ hK (hHeld.trans (hbb.mono hHeld.size)) fun hHeld=>?_;clear hK K;refine tk 5 ?_;have hqa:=hba.size;have zG:=hbb.size
       (try simp at hqa zG)
       exact J _ _ A1 A2 c1 c2 _ ((Held.newAt _ aZ 53 (by first | rfl | simp)).below hbb) (((Held.newAt _ aZ 53 (by first | rfl | simp)).alloc _).below hbb) (by (try simp);(try omega)) (by (try simp);(try omega)) (by (try simp);(try omega)) hHeld ((((Reads.more hra (fun b hl h=>by (try simp at h hl ⊢) <;> omega)).alloc _).alloc _).below hbb) (Reads.more hrb (fun b hl h=>by (try simp at h hl ⊢) <;> omega))
 · go_simp
   refine bZ hK (Below.alloc hHeld hHeld.size _) fun hHeld=>?_;clear hK K;refine Am 1 7 (fun K hK=>?_) fun K hK=>?_
   · go_simp
     (go_at_call 36;refine (eF r _).mono ?_;rintro e wa ⟨A1,c1,rfl,hra,hba⟩)
     refine bZ hK (hHeld.trans (hba.mono hHeld.size)) fun hHeld=>?_;clear hK K;refine tk 2 ?_;refine Am 4 7 (fun K hK=>?_) fun K hK=>?_
     · go_simp
       (go_at_call 36;refine (eF r _).mono ?_;rintro e wb ⟨A2,c2,rfl,hrb,hbb⟩)
       refine bZ hK (hHeld.trans (hbb.mono hHeld.size)) fun hHeld=>?_;clear hK K;refine tk 5 ?_;refine tr 7 fun K hK=>?_;go_simp;refine bZ hK (Below.alloc hHeld hHeld.size _) fun hHeld=>?_;clear hK K;have hqa:=hba.size;have zG:=hbb.size
       (try simp at hqa zG)
       exact J _ _ A1 A2 c1 c2 _ ((((Held.newAt _ aZ 53 (by first | rfl | simp)).drew.below hba).below hbb).alloc _) (Held.newAt _ aZ 53 (by first | rfl | simp)) (by (try simp);(try omega)) (by (try simp);(try omega)) (by (try simp);(try omega)) hHeld (((Reads.more hra (fun b hl h=>by (try simp at h hl ⊢) <;> omega)).below hbb).alloc _) ((Reads.more hrb (fun b hl h=>by (try simp at h hl ⊢) <;> omega)).alloc _)
     · go_simp
       refine bZ hK (Below.alloc hHeld hHeld.size _) fun hHeld=>?_;clear hK K;refine tr 4 fun K hK=>?_;go_simp
       (go_at_call 36;refine (eF r _).mono ?_;rintro e wb ⟨A2,c2,rfl,hrb,hbb⟩)
       refine bZ hK (hHeld.trans (hbb.mono hHeld.size)) fun hHeld=>?_;clear hK K;refine tk 5 ?_;have hqa:=hba.size;have zG:=hbb.size
       (try simp at hqa zG)
       exact J _ _ A1 A2 c1 c2 _ ((((Held.newAt _ aZ 53 (by first | rfl | simp)).drew.below hba).alloc _).below hbb) ((Held.newAt _ aZ 53 (by first | rfl | simp)).below hbb) (by (try simp);(try omega)) (by (try simp);(try omega)) (by (try simp);(try omega)) hHeld (((Reads.more hra (fun b hl h=>by (try simp at h hl ⊢) <;> omega)).alloc _).below hbb) (Reads.more hrb (fun b hl h=>by (try simp at h hl ⊢) <;> omega))
   · go_simp
     refine bZ hK (Below.alloc hHeld hHeld.size _) fun hHeld=>?_;clear hK K;refine tr 1 fun K hK=>?_;go_simp
     (go_at_call 36;refine (eF r _).mono ?_;rintro e wa ⟨A1,c1,rfl,hra,hba⟩)
     refine bZ hK (hHeld.trans (hba.mono hHeld.size)) fun hHeld=>?_;clear hK K;refine tk 2 ?_;refine tr 4 fun K hK=>?_;go_simp
     (go_at_call 36;refine (eF r _).mono ?_;rintro e wb ⟨A2,c2,rfl,hrb,hbb⟩)
     refine bZ hK (hHeld.trans (hbb.mono hHeld.size)) fun hHeld=>?_;clear hK K;refine tk 5 ?_;have hqa:=hba.size;have zG:=hbb.size
     (try simp at hqa zG)
     exact J _ _ A1 A2 c1 c2 _ ((((Held.newAt _ aZ 53 (by first | rfl | simp)).alloc _).drew.below hba).below hbb) (((Held.newAt _ aZ 53 (by first | rfl | simp)).drew.below hba).below hbb) (by (try simp);(try omega)) (by (try simp);(try omega)) (by (try simp);(try omega)) hHeld ((Reads.more hra (fun b hl h=>by (try simp at h hl ⊢) <;> omega)).below hbb) (Reads.more hrb (fun b hl h=>by (try simp at h hl ⊢) <;> omega))
 · go_simp
   refine bZ hK (Below.alloc hHeld hHeld.size _) fun hHeld=>?_;clear hK K;refine Am 1 6 (fun K hK=>?_) fun K hK=>?_
   · go_simp
     (go_at_call 36;refine (eF r _).mono ?_;rintro e wa ⟨A1,c1,rfl,hra,hba⟩)
     refine bZ hK (hHeld.trans (hba.mono hHeld.size)) fun hHeld=>?_;clear hK K;refine tk 2 ?_;refine Am 4 6 (fun K hK=>?_) fun K hK=>?_
     · go_simp
       (go_at_call 36;refine (eF r _).mono ?_;rintro e wb ⟨A2,c2,rfl,hrb,hbb⟩)
       refine bZ hK (hHeld.trans (hbb.mono hHeld.size)) fun hHeld=>?_;clear hK K;refine tk 5 ?_;refine tr 6 fun K hK=>?_;go_simp;refine bZ hK (Below.alloc hHeld hHeld.size _) fun hHeld=>?_;clear hK K;have hqa:=hba.size;have zG:=hbb.size
       (try simp at hqa zG)
       exact J _ _ A1 A2 c1 c2 _ (Held.newAt _ aZ 53 (by first | rfl | simp)) ((((Held.newAt _ aZ 53 (by first | rfl | simp)).drew.below hba).below hbb).alloc _) (by (try simp);(try omega)) (by (try simp);(try omega)) (by (try simp);(try omega)) hHeld (((Reads.more hra (fun b hl h=>by (try simp at h hl ⊢) <;> omega)).below hbb).alloc _) ((Reads.more hrb (fun b hl h=>by (try simp at h hl ⊢) <;> omega)).alloc _)
     · go_simp
       refine bZ hK (Below.alloc hHeld hHeld.size _) fun hHeld=>?_;clear hK K;refine tr 4 fun K hK=>?_;go_simp
       (go_at_call 36;refine (eF r _).mono ?_;rintro e wb ⟨A2,c2,rfl,hrb,hbb⟩)
       refine bZ hK (hHeld.trans (hbb.mono hHeld.size)) fun hHeld=>?_;clear hK K;refine tk 5 ?_;have hqa:=hba.size;have zG:=hbb.size
       (try simp at hqa zG)
       exact J _ _ A1 A2 c1 c2 _ ((Held.newAt _ aZ 53 (by first | rfl | simp)).below hbb) ((((Held.newAt _ aZ 53 (by first | rfl | simp)).drew.below hba).alloc _).below hbb) (by (try simp);(try omega)) (by (try simp);(try omega)) (by (try simp);(try omega)) hHeld (((Reads.more hra (fun b hl h=>by (try simp at h hl ⊢) <;> omega)).alloc _).below hbb) (Reads.more hrb (fun b hl h=>by (try simp at h hl ⊢) <;> omega))
   · go_simp
     refine bZ hK (Below.alloc hHeld hHeld.size _) fun hHeld=>?_;clear hK K;refine tr 1 fun K hK=>?_;go_simp
     (go_at_call 36;refine (eF r _).mono ?_;rintro e wa ⟨A1,c1,rfl,hra,hba⟩)
     refine bZ hK (hHeld.trans (hba.mono hHeld.size)) fun hHeld=>?_;clear hK K;refine tk 2 ?_;refine tr 4 fun K hK=>?_;go_simp
     (go_at_call 36;refine (eF r _).mono ?_;rintro e wb ⟨A2,c2,rfl,hrb,hbb⟩)
     refine bZ hK (hHeld.trans (hbb.mono hHeld.size)) fun hHeld=>?_;clear hK K;refine tk 5 ?_;have hqa:=hba.size;have zG:=hbb.size
     (try simp at hqa zG)
     exact J _ _ A1 A2 c1 c2 _ (((Held.newAt _ aZ 53 (by first | rfl | simp)).drew.below hba).below hbb) ((((Held.newAt _ aZ 53 (by first | rfl | simp)).alloc _).drew.below hba).below hbb) (by (try simp);(try omega)) (by (try simp);(try omega)) (by (try simp);(try omega)) hHeld ((Reads.more hra (fun b hl h=>by (try simp at h hl ⊢) <;> omega)).below hbb) (Reads.more hrb (fun b hl h=>by (try simp at h hl ⊢) <;> omega))
theorem Zi (r:M.Rules) (a b:List Sh) (A B:Option Addr) (c d:Nat) (w:World) (HR:Hid (M.bP r=0∧M.dB (plain a)=0∧M.dB (plain b)=0)) (HP:Hid (jF w (fun b=>b<w.heap.size) A c a∧jF w (fun b=>b<w.heap.size) B d b)):Oq r a b A B c d w:=by
 dsimp only [Oq,KD]
 intros
 rename_i W hf
 dsimp only [yI,dG,Tryz.f11,Option.getD]
 obtain ⟨p,q,⟨La,A1,c1,rfl,hla,hga,YF⟩,⟨Lb,B1,d1,rfl,hlb,hgb,YG⟩,rfl,rfl,UK,lp,lq,hX0,hY0,hbw⟩:=hf;rw [hla,hlb];obtain ⟨m,hm⟩:∃ m,max a.length b.length=m:=⟨_,rfl⟩
 have hmx:max (a.length:Int) (b.length:Int)=(m:Int):=by omega
 have hma:a.length≤m∧b.length≤m∧(m=a.length∨m=b.length):=by omega
 have hck:=HR.out;have l1:=((M.jB _).1 hck.2.1).1;have l2:=((M.jB _).1 hck.2.2).1;rw [aU] at l1 l2;have HLA:=hide (And.intro hla hlb);have hch:=KL r a b;rw [hm] at hch;have HCH:=hide hch
 have hX:∀ b:Nat,(b≠p∧b≠q)→¬ (b=p∨b=q):=fun b h=>by rintro (e | e);exact h.1 e;exact h.2 e
 have Vs:∀ b:Nat,(b=p∨b=q)→w.heap.size≤b:=fun b h=>by rcases h with rfl | rfl <;> assumption
 have HX:=hide (And.intro hX Vs);clear hla hlb hm hch hck hX Vs;apply wp_seq_k;intro K hK;have HK:=hide hK;clear hK;apply wp_seq_k;intro K2 hK2;have wS:=hide hK2;clear hK2;go_wp2;refine wS.out _ _ ?_;clear hmx;go_wp2
 go_loopw [41] (fun i wr=>∃ k:Nat,k≤m∧i= .int .i64 k∧M.changed r (plain a) (plain b)=M.jm (Yb r a b) (k+1) (m - k)∧ChI r a b p q k W wr) (fun i _=>m - (intOf i).toNat)
 case atStart=>exact ⟨0,Nat.zero_le _,rfl,HCH.out,Turn.refl _ _,hX0,hY0⟩
 case round=>
  obtain ⟨k,hk,rfl,hf,hI⟩:=hrel;have HF:=hide hf;clear hf hX0 hY0
  by_cases hlt:k<m
  · have hst:=M.AU (Yb r a b) hlt
    obtain ⟨v,hv⟩:∃ v,Yb r a b (k+1)=v:=⟨_,rfl⟩
    have hf2:M.changed r (plain a) (plain b)=if v then M.jm (Yb r a b) (k+1+1) (m - (k+1)) else ((k+1:Nat):Int):=by rw [← hv];exact HF.out.trans hst
    have HF2:=hide hf2;obtain ⟨As,cs,hp,hpr⟩:=hI.x;obtain ⟨At,ct,hq,hqr⟩:=hI.y;obtain ⟨hla,hlb⟩:=HLA.out;obtain ⟨hX,Vs⟩:=HX.out;clear hst hf2 HF
    by_cases pa:k<a.length
    · by_cases pb:k<b.length
      · obtain ⟨ba,oa,Aa,ca,rfl,hSa,aaZ,hra,hba⟩:=Ec hla hga (YF.turn hI.t hX) pa
        obtain ⟨bb,ob,Ab,cb,rfl,hSb,aa6,hrb,hbb⟩:=Ec hlb hgb (YG.turn hI.t hX) pb;obtain ⟨sa,hsa⟩:∃ q,M.fH r (plain a) (k+1)=q:=⟨_,rfl⟩;obtain ⟨sb,hsb⟩:∃ q,M.fH r (plain b) (k+1)=q:=⟨_,rfl⟩
        have hv2:sa.eq sb=v:=by rw [← hsa, ← hsb];exact hv
        rw [hsa] at hra hba;rw [hsb] at hrb hbb;have Ws:(wr.setCells p 0 (aO sa Aa ca)).rangeAt bb (ob+k*15) (aO sb Ab cb):=fun j v hj=>(jc _ _ _ _ hSb.1).trans (hrb j v hj);have hq1:Held (wr.setCells p 0 (aO sa Aa ca)) q (aO (M.fH r (plain b) k) At ct) 53:=Held.others UK.symm _ _ _ hq
        have t1:decide (k<a.length)=true:=by simp;omega
        have t2:decide (k<b.length)=true:=by simp;omega
        have u1:((k:Int)<(a.length:Int)):=by omega
        have u2:((k:Int)<(b.length:Int)):=by omega
        have i1:(0:Int)≤(k:Int):=by omega
        have i2:(k:Int)<(m:Int):=by omega
        have Ho:=hide (And.intro hsa hsb);clear hsa hsb hv pa pb
        go_upto_region 13 with (first | (refine aC 53 (.tmp 50) rfl ?_;refine dw (g:=ba) (o:=oa+k*15) hra Tryz.underlying53 rfl bF rfl (.tmp 50) rfl rfl ?_) | (refine aQ 53 (.tmp 11) (.tmp 51) rfl ?_;refine aI hp (aO sa Aa ca) rfl bF (fD _ _ _) rfl (.tmp 11) (.tmp 51) rfl rfl rfl ?_) | (refine aC 53 (.tmp 58) rfl ?_;refine dw (g:=bb) (o:=ob+k*15) Ws Tryz.underlying53 rfl bF rfl (.tmp 58) rfl rfl ?_) | (refine aQ 53 (.tmp 12) (.tmp 59) rfl ?_;refine aI hq1 (aO sb Ab cb) rfl bF (fD _ _ _) rfl (.tmp 12) (.tmp 59) rfl rfl rfl ?_))
        refine uK (p:=fun W=>Code.wp _ _ _ _ W) (fun w2 hw2=>?_)
        have hP2:Held w2 p (aO sa Aa ca) 53:=by rw [hw2];exact Held.others UK _ _ _ (hp.whole _ rfl)
        have hQ2:Held w2 q (aO sb Ab cb) 53:=by rw [hw2];exact hq1.whole _ rfl
        have VD:bT w2 (fun b=>b≠p∧b≠q) Aa ca sa.aA:=by rw [hw2];exact (bT.sets (fun h=>h.2 rfl) _ _ _ (bT.sets (fun h=>h.1 rfl) _ _ _ hba))
        have VE:bT w2 (fun b=>b≠p∧b≠q) Ab cb sb.aA:=by rw [hw2];exact (bT.sets (fun h=>h.2 rfl) _ _ _ (bT.sets (fun h=>h.1 rfl) _ _ _ hbb))
        have T2:Turn (fun b=>b=p∨b=q) W w2:=by rw [hw2];exact ((hI.t.trans (jW (X:=fun b=>b=p∨b=q) (.inl rfl) _ _) (fun b h=> .inl h)).trans (jW (X:=fun b=>b=p∨b=q) (.inr rfl) _ _) (fun b h=> .inl h))
        have hsm:=wI _ _ sa sb Aa Ab ca cb w2 VD VE;rw [hv2] at hsm;have Ey:=hide hsm;clear hsm hv2 hw2 hp hq hpr hqr hI
        cases v with
        | true=>
          go_wp2_with (first | (refine aC 53 (.tmp 11) rfl ?_;refine au (hP2) Tryz.underlying53 rfl bF rfl (.tmp 11) rfl rfl ?_) | (refine aC 53 (.tmp 12) rfl ?_;refine au (hQ2) Tryz.underlying53 rfl bF rfl (.tmp 12) rfl rfl ?_) | (go_at_call 37;refine Ey.out.mono ?_;rintro e w3 ⟨rfl,hb3⟩;dsimp only))
          go_roundw
          case rel=>exact ⟨k+1,by omega,by go_num,HF2.out,T2.trans (X':=fun _=>False) (Turn.of_below hb3) (fun b h=>h.elim),⟨_,_,by rw [Ho.out.1];exact hP2.below hb3,by rw [Ho.out.1];exact VD.below hb3⟩,⟨_,_,by rw [Ho.out.2];exact hQ2.below hb3,by rw [Ho.out.2];exact VE.below hb3⟩⟩
          case measure=>simp [intOf];omega
        | false=>
          go_wp2_with (first | (refine aC 53 (.tmp 11) rfl ?_;refine au (hP2) Tryz.underlying53 rfl bF rfl (.tmp 11) rfl rfl ?_) | (refine aC 53 (.tmp 12) rfl ?_;refine au (hQ2) Tryz.underlying53 rfl bF rfl (.tmp 12) rfl rfl ?_) | (go_at_call 37;refine Ey.out.mono ?_;rintro e w3 ⟨rfl,hb3⟩;dsimp only))
          go_ret2;exact ⟨by rw [HF2.out] <;> first | rfl | (push_cast;rfl),(fM hbw T2 Vs hbw.size).trans (hb3.mono (by have:=hbw.size;have:=T2.size;omega))⟩
      · obtain ⟨ba,oa,Aa,ca,rfl,hSa,aaZ,hra,hba⟩:=Ec hla hga (YF.turn hI.t hX) pa
        rw [← CS pb] at hq hqr;obtain ⟨sa,hsa⟩:∃ q,M.fH r (plain a) (k+1)=q:=⟨_,rfl⟩;obtain ⟨sb,hsb⟩:∃ q,M.fH r (plain b) (k+1)=q:=⟨_,rfl⟩
        have hv2:sa.eq sb=v:=by rw [← hsa, ← hsb];exact hv
        rw [hsa] at hra hba;rw [hsb] at hq hqr
        have t1:decide (k<a.length)=true:=by simp;omega
        have t2:decide (k<b.length)=false:=by simp;omega
        have u1:((k:Int)<(a.length:Int)):=by omega
        have u2:¬ ((k:Int)<(b.length:Int)):=by omega
        have i1:(0:Int)≤(k:Int):=by omega
        have i2:(k:Int)<(m:Int):=by omega
        have Ho:=hide (And.intro hsa hsb);clear hsa hsb hv pa pb
        go_upto_region 13 with (first | (refine aC 53 (.tmp 50) rfl ?_;refine dw (g:=ba) (o:=oa+k*15) hra Tryz.underlying53 rfl bF rfl (.tmp 50) rfl rfl ?_) | (refine aQ 53 (.tmp 11) (.tmp 51) rfl ?_;refine aI hp (aO sa Aa ca) rfl bF (fD _ _ _) rfl (.tmp 11) (.tmp 51) rfl rfl rfl ?_))
        refine uK (p:=fun W=>Code.wp _ _ _ _ W) (fun w2 hw2=>?_)
        have hP2:Held w2 p (aO sa Aa ca) 53:=by rw [hw2];exact hp.whole _ rfl
        have hQ2:Held w2 q (aO sb At ct) 53:=by rw [hw2];exact Held.others UK.symm _ _ _ hq
        have VD:bT w2 (fun b=>b≠p∧b≠q) Aa ca sa.aA:=by rw [hw2];exact (bT.sets (fun h=>h.1 rfl) _ _ _ hba)
        have VE:bT w2 (fun b=>b≠p∧b≠q) At ct sb.aA:=by rw [hw2];exact (bT.sets (fun h=>h.1 rfl) _ _ _ hqr)
        have T2:Turn (fun b=>b=p∨b=q) W w2:=by rw [hw2];exact (hI.t.trans (jW (X:=fun b=>b=p∨b=q) (.inl rfl) _ _) (fun b h=> .inl h))
        have hsm:=wI _ _ sa sb Aa At ca ct w2 VD VE;rw [hv2] at hsm;have Ey:=hide hsm;clear hsm hv2 hw2 hp hq hpr hqr hI
        cases v with
        | true=>
          go_wp2_with (first | (refine aC 53 (.tmp 11) rfl ?_;refine au (hP2) Tryz.underlying53 rfl bF rfl (.tmp 11) rfl rfl ?_) | (refine aC 53 (.tmp 12) rfl ?_;refine au (hQ2) Tryz.underlying53 rfl bF rfl (.tmp 12) rfl rfl ?_) | (go_at_call 37;refine Ey.out.mono ?_;rintro e w3 ⟨rfl,hb3⟩;dsimp only))
          go_roundw
          case rel=>exact ⟨k+1,by omega,by go_num,HF2.out,T2.trans (X':=fun _=>False) (Turn.of_below hb3) (fun b h=>h.elim),⟨_,_,by rw [Ho.out.1];exact hP2.below hb3,by rw [Ho.out.1];exact VD.below hb3⟩,⟨_,_,by rw [Ho.out.2];exact hQ2.below hb3,by rw [Ho.out.2];exact VE.below hb3⟩⟩
          case measure=>simp [intOf];omega
        | false=>
          go_wp2_with (first | (refine aC 53 (.tmp 11) rfl ?_;refine au (hP2) Tryz.underlying53 rfl bF rfl (.tmp 11) rfl rfl ?_) | (refine aC 53 (.tmp 12) rfl ?_;refine au (hQ2) Tryz.underlying53 rfl bF rfl (.tmp 12) rfl rfl ?_) | (go_at_call 37;refine Ey.out.mono ?_;rintro e w3 ⟨rfl,hb3⟩;dsimp only))
          go_ret2;exact ⟨by rw [HF2.out] <;> first | rfl | (push_cast;rfl),(fM hbw T2 Vs hbw.size).trans (hb3.mono (by have:=hbw.size;have:=T2.size;omega))⟩
    · have pb:k<b.length:=by omega
      rw [← CS pa] at hp hpr;obtain ⟨bb,ob,Ab,cb,rfl,hSb,aa6,hrb,hbb⟩:=Ec hlb hgb (YG.turn hI.t hX) pb;obtain ⟨sa,hsa⟩:∃ q,M.fH r (plain a) (k+1)=q:=⟨_,rfl⟩;obtain ⟨sb,hsb⟩:∃ q,M.fH r (plain b) (k+1)=q:=⟨_,rfl⟩
      have hv2:sa.eq sb=v:=by rw [← hsa, ← hsb];exact hv
      rw [hsa] at hp hpr;rw [hsb] at hrb hbb;have Ws:=hrb;have hq1:=hq
      have t1:decide (k<a.length)=false:=by simp;omega
      have t2:decide (k<b.length)=true:=by simp;omega
      have u1:¬ ((k:Int)<(a.length:Int)):=by omega
      have u2:((k:Int)<(b.length:Int)):=by omega
      have i1:(0:Int)≤(k:Int):=by omega
      have i2:(k:Int)<(m:Int):=by omega
      have Ho:=hide (And.intro hsa hsb);clear hsa hsb hv pa pb
      go_upto_region 13 with (first | (refine aC 53 (.tmp 58) rfl ?_;refine dw (g:=bb) (o:=ob+k*15) Ws Tryz.underlying53 rfl bF rfl (.tmp 58) rfl rfl ?_) | (refine aQ 53 (.tmp 12) (.tmp 59) rfl ?_;refine aI hq1 (aO sb Ab cb) rfl bF (fD _ _ _) rfl (.tmp 12) (.tmp 59) rfl rfl rfl ?_))
      refine uK (p:=fun W=>Code.wp _ _ _ _ W) (fun w2 hw2=>?_)
      have hP2:Held w2 p (aO sa As cs) 53:=by rw [hw2];exact Held.others UK _ _ _ (hp)
      have hQ2:Held w2 q (aO sb Ab cb) 53:=by rw [hw2];exact hq1.whole _ rfl
      have VD:bT w2 (fun b=>b≠p∧b≠q) As cs sa.aA:=by rw [hw2];exact (bT.sets (fun h=>h.2 rfl) _ _ _ hpr)
      have VE:bT w2 (fun b=>b≠p∧b≠q) Ab cb sb.aA:=by rw [hw2];exact (bT.sets (fun h=>h.2 rfl) _ _ _ hbb)
      have T2:Turn (fun b=>b=p∨b=q) W w2:=by rw [hw2];exact (hI.t.trans (jW (X:=fun b=>b=p∨b=q) (.inr rfl) _ _) (fun b h=> .inl h))
      have hsm:=wI _ _ sa sb As Ab cs cb w2 VD VE;rw [hv2] at hsm;have Ey:=hide hsm;clear hsm hv2 hw2 hp hq hpr hqr hI
      cases v with
      | true=>
        go_wp2_with (first | (refine aC 53 (.tmp 11) rfl ?_;refine au (hP2) Tryz.underlying53 rfl bF rfl (.tmp 11) rfl rfl ?_) | (refine aC 53 (.tmp 12) rfl ?_;refine au (hQ2) Tryz.underlying53 rfl bF rfl (.tmp 12) rfl rfl ?_) | (go_at_call 37;refine Ey.out.mono ?_;rintro e w3 ⟨rfl,hb3⟩;dsimp only))
        go_roundw
        case rel=>exact ⟨k+1,by omega,by go_num,HF2.out,T2.trans (X':=fun _=>False) (Turn.of_below hb3) (fun b h=>h.elim),⟨_,_,by rw [Ho.out.1];exact hP2.below hb3,by rw [Ho.out.1];exact VD.below hb3⟩,⟨_,_,by rw [Ho.out.2];exact hQ2.below hb3,by rw [Ho.out.2];exact VE.below hb3⟩⟩
        case measure=>simp [intOf];omega
      | false=>
        go_wp2_with (first | (refine aC 53 (.tmp 11) rfl ?_;refine au (hP2) Tryz.underlying53 rfl bF rfl (.tmp 11) rfl rfl ?_) | (refine aC 53 (.tmp 12) rfl ?_;refine au (hQ2) Tryz.underlying53 rfl bF rfl (.tmp 12) rfl rfl ?_) | (go_at_call 37;refine Ey.out.mono ?_;rintro e w3 ⟨rfl,hb3⟩;dsimp only))
        go_ret2;exact ⟨by rw [HF2.out] <;> first | rfl | (push_cast;rfl),(fM hbw T2 Vs hbw.size).trans (hb3.mono (by have:=hbw.size;have:=T2.size;omega))⟩
  · have hke:k=m:=by omega
    have i9:¬ ((k:Int)<(m:Int)):=by omega
    have hf2:M.changed r (plain a) (plain b)=0:=HF.out.trans (by rw [hke,Nat.sub_self];rfl);have HF2:=hide hf2;have T2:=hI.t;obtain ⟨hX,Vs⟩:=HX.out;clear hf2 hke hlt hI;go_wp2;refine HK.out _ _ ?_;go_wp2;go_ret2;exact ⟨by rw [HF2.out] <;> rfl,fM hbw T2 Vs hbw.size⟩
def FX (r:M.Rules) (a b:List M.aV):Int:=bK [bK [M.bP r,M.dB a],M.dB b]
def I9 (r:M.Rules) (a b:List M.aV):Int:=if FX r a b=0 then M.changed r a b else 0
theorem BM {a b:Int} (h:bK [a,b]=0):a=0∧b=0:=by
 unfold bK bK bK at h
 by_cases ha:a=0
 · by_cases hb:b=0
   · exact ⟨ha,hb⟩
   · simp [ha,hb] at h
 · simp [ha] at h
theorem vw (r:M.Rules) (a b:List Sh) (A B:Option Addr) (c d:Nat) (w:World) (hp0:jF w (fun _=>True) A c a) (hq0:jF w (fun _=>True) B d b):
 Calls Tryz.prog 11 #[iY r,.slice A a.length c,.slice B b.length d] w fun e w'=>e= .returned (.tuple #[.int .i64 (I9 r (plain a) (plain b)),.int .i64 (FX r (plain a) (plain b))])∧Below w.heap.size w w':=by
 have hp:=hp0.more (S':=fun b=>b<w.heap.size) (fun b hb _=>hb);have hq:=hq0.more (S':=fun b=>b<w.heap.size) (fun b hb _=>hb);have HP:=hide (And.intro hp hq);obtain ⟨E1,hE1⟩:∃ q,bK [M.bP r,M.dB (plain a)]=q:=⟨_,rfl⟩;obtain ⟨E2,hE2⟩:∃ q,M.dB (plain b)=q:=⟨_,rfl⟩;obtain ⟨E,hE⟩:∃ q,bK [E1,E2]=q:=⟨_,rfl⟩
 have hEE:FX r (plain a) (plain b)=E:=by unfold FX;rw [hE1,hE2,hE]
 have hck:=fun W h=>check_any (fun b=>b<w.heap.size) r a A c W h;have hcl:=fun W h=>sD (fun b=>b<w.heap.size) b B d W h;have hfi:=fun A c W h=>first_any (fun _=>True) A c [E1,E2] W h
 simp only [hE1] at hck
 simp only [hE2] at hcl
 simp only [hE] at hfi
 have Ap:=hide hck;have Ky:=hide hcl;have XC:=hide hfi;clear hck hcl hfi hp0 hq0
 by_cases h0:E=0
 rotate_left
 · have q0:(E != 0)=true:=by simpa using h0
   have hv:I9 r (plain a) (plain b)=0:=if_neg (by rw [hEE];exact h0);have HV:=hide (And.intro hv hEE);clear hv hEE h0 hE hE1 hE2
   go_enter Tryz.func11,Tryz.ntmps11
   have hB:=(aS.nil w).new (by simp) ([.string r.game,.int .i64 r.target,.int .i64 r.bG]) 23
   go_wp2_with (first | (refine aC 23 (.tmp 3) rfl ?_;refine au (hB.ah rfl) Tryz.underlying23 rfl bU rfl (.tmp 3) rfl rfl ?_) | (go_at_call 34;refine (Ap.out _ (hp.below hB.bw)).mono ?_;rintro e w1 ⟨rfl,hb1⟩;have hB1:=hB.call (by simp) hb1;dsimp only) | (go_at_call 29;refine (Ky.out _ (hq.below hB1.bw)).mono ?_;rintro e w2 ⟨rfl,hb2⟩;have hB2:=hB1.call (by simp) hb2;dsimp only) | (go_at_call 28;refine (XC.out _ _ _ (bT.lit _ _ _ (by simp) _ trivial)).mono ?_;rintro e w8 ⟨rfl,rfl⟩;dsimp only))
   go_ret2;exact ⟨by rw [HV.out.1,HV.out.2] <;> rfl,hB2.bw.alloc hB2.bw.size _⟩
 subst h0;have q0:((0:Int) != 0)=false:=rfl;have h12:=BM hE;obtain ⟨rfl,rfl⟩:=h12;have h13:=BM hE1;have hv:I9 r (plain a) (plain b)=M.changed r (plain a) (plain b):=if_pos hEE;have HR:Hid (M.bP r=0∧M.dB (plain a)=0∧M.dB (plain b)=0):=hide ⟨h13.1,h13.2,hE2⟩;have hall:=Zg r a b A B c d w HR HP (hide (Zh r a b A B c d w HR HP (hide (Zi r a b A B c d w HR HP))));have VK:=hide hall;rw [hv,hEE];clear hall hv hEE hE hE1 hE2 h13
 go_enter Tryz.func11,Tryz.ntmps11
 apply wp_seq_k;intro K0 hK0;have HK0:=hide hK0;clear hK0;go_wp2;refine HK0.out _ _ ?_;refine uK (p:=fun W=>Code.wp _ _ _ _ W) (fun w0 hw0=>?_)
 have hB:aS w w0 [([.string r.game,.int .i64 r.target,.int .i64 r.bG],23)]:=by rw [hw0];exact (aS.nil w).new (by simp) ([.string r.game,.int .i64 r.target,.int .i64 r.bG]) 23
 clear hw0;apply wp_seq_k;intro K hK;have HK:=hide hK;clear hK
 go_wp2_with (first | (refine aC 23 (.tmp 3) rfl ?_;refine au (hB.ah rfl) Tryz.underlying23 rfl bU rfl (.tmp 3) rfl rfl ?_) | (go_at_call 34;refine (Ap.out _ (hp.below hB.bw)).mono ?_;rintro e w1 ⟨rfl,hb1⟩;have hB1:=hB.call (by simp) hb1;dsimp only) | (go_at_call 29;refine (Ky.out _ (hq.below hB1.bw)).mono ?_;rintro e w2 ⟨rfl,hb2⟩;have hB2:=hB1.call (by simp) hb2;dsimp only) | (go_at_call 28;refine (XC.out _ _ _ (bT.lit _ _ _ (by simp) _ trivial)).mono ?_;rintro e w8 ⟨rfl,rfl⟩;dsimp only))
 refine HK.out _ _ ?_;have HA:=VK.out;apply HA;exact ⟨rfl,rfl,rfl,(hB2.ah rfl).alloc _,hB2.bw.alloc hB2.bw.size _⟩
end Go.Proofs.YtcjglfbpjkdgiaaGreatDoor
