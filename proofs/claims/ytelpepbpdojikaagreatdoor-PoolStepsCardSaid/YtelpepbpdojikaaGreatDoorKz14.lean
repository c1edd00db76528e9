/- Parts of the proofs about chapter 5 (pool), joined by program. -/
import Derived.Test.YtelpepbpdojikaaGreatDoorKg31
import Derived.Test.YtelpepbpdojikaaGreatDoorKz10
import Derived.Test.YtelpepbpdojikaaGreatDoorKz12
import Derived.Test.YtelpepbpdojikaaGreatDoorKz15
import Derived.Test.YtelpepbpdojikaaGreatDoorKz2
set_option maxHeartbeats 16000000
set_option maxRecDepth 100000
set_option linter.unusedVariables false
set_option linter.unusedSimpArgs false
namespace Go.Proofs.YtelpepbpdojikaaGreatDoor
open Go.RowKit
structure ahi (W0:World) (r:M.Rules) (l:List Sh) (Al:Option Addr) (cl:Nat) (v1 v2:Value) (W:World):Prop where
 e1:v1= .slice Al l.length cl
 e2:v2=ptr W0.heap.size
 h2:Held W W0.heap.size [.string r.game,.int .i64 r.target,.int .i64 r.aY] 23
 rl:wG W (fun _=>True) Al cl l
 pl:∀ e∈l,e.x.aA.length*16≤140737488355328
 ll:l.length*80≤140737488355328
 bw:Below W0.heap.size W0 W
theorem ahi.below {W0 W W':World} {r:M.Rules} {l:List Sh} {Al:Option Addr} {cl:Nat} {v1 v2:Value} (h:ahi W0 r l Al cl v1 v2 W) (hb:Below W.heap.size W W'):ahi W0 r l Al cl v1 v2 W':=
 ⟨h.e1,h.e2,h.h2.below hb,h.rl.below hb,h.pl,h.ll,VY h.bw hb⟩
def aiI (W0:World) (r:M.Rules) (l:List Sh) (Al:Option Addr) (cl:Nat) (v1 v2 v5 v6:Value) (W:World):Prop:=
 ahi W0 r l Al cl v1 v2 W∧∃ B5 A6 c6 l',v5=ptr B5∧Held W B5 [.string r.game,.int .i64 r.target,.int .i64 r.aY] 25∧v6= .slice A6 l'.length c6∧plain l'=plain l∧wG W (fun _=>True) A6 c6 l'
theorem aiI.below {W0 W W':World} {r:M.Rules} {l:List Sh} {Al:Option Addr} {cl:Nat} {v1 v2 v5 v6:Value} (h:aiI W0 r l Al cl v1 v2 v5 v6 W) (hb:Below W.heap.size W W'):aiI W0 r l Al cl v1 v2 v5 v6 W':=by
 obtain ⟨h1,B5,A6,c6,l',e5,h5,e6,hp,h6⟩:=h
 exact ⟨h1.below hb,B5,A6,c6,l',e5,h5.below hb,e6,hp,h6.below hb⟩
def acV (s:M.State) (t:TypeId) (v:Value) (W:World):Prop:=∃ B A c,v=ptr B∧Held W B (aW s A c) t∧bD W (fun _=>True) A c s.ay
theorem acV.below {s:M.State} {t:TypeId} {v:Value} {W W':World} (h:acV s t v W) (hb:Below W.heap.size W W'):acV s t v W':=by
 obtain ⟨B,A,c,h1,h2,h3⟩:=h
 exact ⟨B,A,c,h1,h2.below hb,h3.below hb⟩
theorem acV.new {s:M.State} {t:TypeId} {A:Option Addr} {c:Nat} {S:Nat→Prop} {w1:World} (hr:bD w1 S A c s.ay) (hbx:Held (w1.alloc (.cells aj.toArray t)) w1.heap.size aj t):
 acV s t (ptr w1.heap.size) ((w1.alloc (.cells aj.toArray t)).setCells w1.heap.size 0 (aW s A c))∧Below w1.heap.size w1 ((w1.alloc (.cells aj.toArray t)).setCells w1.heap.size 0 (aW s A c)):=by
 have hb:Below w1.heap.size w1 ((w1.alloc (.cells aj.toArray t)).setCells w1.heap.size 0 (aW s A c)):=below_setCells _ (Nat.le_refl _) _ _ _ _ ((Below.refl _ _).alloc (Nat.le_refl _) _)
 exact ⟨⟨w1.heap.size,A,c,rfl,hbx.whole _ rfl,bD.more (hr.below hb) (fun _ _ _=>trivial)⟩,hb⟩
theorem Zf:(Tryz.prog.info? 25).map (·.size)=some 3:=by kernel_rfl
theorem wG.anM {w6 X:World} {S:Nat→Prop} {A:Option Addr} {c g o:Nat} {l:List Sh} {v:List Value} (h:wG w6 S A c l) (hb:Below w6.heap.size w6 X) (hg:∀ b,b<w6.heap.size→S b→b≠g):wG (X.setCells g o v) S A c l:=
 h.keep (by rw [setCells_size];exact hb.size) fun b i hs hl=>(kN _ _ _ _ (hg b hl hs)).trans (hb.cell (p:=⟨b,i,none⟩) hl)
theorem afR {a b:Int} (h:aU [a,b]=0):a=0∧b=0:=by
 unfold aU at h
 split at h
 · next h1=>exact absurd h h1
 · next h1=>
   have ha:a=0:=by simpa using h1
   refine ⟨ha,?_⟩
   unfold aU at h
   split at h
   · next h2=>exact absurd h h2
   · next h2=>simpa using h2
structure ac2 (r:M.Rules) (l:List Sh) (n:Nat):Prop where
 len:l.length≤n
 rules:M.aH r=0
 log:M.je (plain l)=0
structure StA (W0:World) (r:M.Rules) (s:M.State) (x:Sh) (As:Option Addr) (cs:Nat) (v3 v4 v5:Value) (W:World):Prop where
 e3:v3=ptr W0.heap.size
 e4:v4=ptr (W0.heap.size+1)
 e5:v5=ptr (W0.heap.size+2)
 h3:Held W W0.heap.size [.string r.game,.int .i64 r.target,.int .i64 r.aY] 23
 h4:Held W (W0.heap.size+1) (aW s As cs) 33
 h5:Held W (W0.heap.size+2) (au x) 66
 rs:bD W (fun _=>True) As cs s.ay
 rx:jl W (fun _=>True) x.a x.c x.x.aA
 fit:x.x.aA.length*16≤140737488355328
 bw:Below W0.heap.size W0 W
theorem StA.below {W0 W W':World} {r:M.Rules} {s:M.State} {x:Sh} {As:Option Addr} {cs:Nat} {v3 v4 v5:Value} (h:StA W0 r s x As cs v3 v4 v5 W) (hb:Below W.heap.size W W'):StA W0 r s x As cs v3 v4 v5 W':=
 ⟨h.e3,h.e4,h.e5,h.h3.below hb,h.h4.below hb,h.h5.below hb,h.rs.below hb,Reads.below h.rx hb,h.fit,VY h.bw hb⟩
def StB (W0:World) (r:M.Rules) (s:M.State) (x:Sh) (As:Option Addr) (cs:Nat) (v3 v4 v5 v7 v8 v9:Value) (W:World):Prop:=
 StA W0 r s x As cs v3 v4 v5 W∧∃ B7 B8 B9 A9 c9,v7=ptr B7∧Held W B7 [.string r.game,.int .i64 r.target,.int .i64 r.aY] 25∧v8=ptr B8∧Held W B8 (aW s As cs) 42∧v9=ptr B9∧Held W B9 (au ⟨x.x,A9,c9⟩) 69∧jl W (fun _=>True) A9 c9 x.x.aA
theorem StB.below {W0 W W':World} {r:M.Rules} {s:M.State} {x:Sh} {As:Option Addr} {cs:Nat} {v3 v4 v5 v7 v8 v9:Value} (h:StB W0 r s x As cs v3 v4 v5 v7 v8 v9 W) (hb:Below W.heap.size W W'):StB W0 r s x As cs v3 v4 v5 v7 v8 v9 W':=by
 obtain ⟨h1,B7,B8,B9,A9,c9,e7,h7,e8,h8,e9,h9,hp⟩:=h
 exact ⟨h1.below hb,B7,B8,B9,A9,c9,e7,h7.below hb,e8,h8.below hb,e9,h9.below hb,Reads.below hp hb⟩
theorem ac9 (S:Nat→Prop) (r:M.Rules) (s:M.State) (A:Option Addr) (c:Nat) (w:World) (hp:bD w S A c s.ay):
 Calls Tryz.prog 43 #[jM r,wF s A c] w fun e w'=>e= .returned (.int .i64 (M.jf r s))∧Below w.heap.size w w':=by
 by_cases h:M.dw r s=0
 · obtain ⟨g,tg,fo⟩:=r
   have ho:=Om h
   by_cases hg:s.group=0
   · exact aaS S g tg fo s A c w hp ho (by simpa using hg)
   · have he:g=M.aQ:=ho.game.resolve_left hg
     subst he
     exact Z9 S tg fo s A c w hp ho (by simpa using hg)
 · have:=ad8 r s A c w hp.bd.2.2 h
   have hck:M.jf r s=M.dw r s:=by unfold M.jf;rw [if_pos h]
   rw [hck]
   exact this
def ZO (r:M.Rules) (s:M.State):List Sh→List Sh
 | []=>[]
 | x::l=>if M.legal r s x.x=0 then x::ZO r (M.step r s x.x) l else ZO r (M.step r s x.x) l
theorem ZV (r:M.Rules):∀ (l:List Sh) (s:M.State),plain (ZO r s l)=M.kept r s (plain l)
 | [],_=>rfl
 | x::l,s=>by
   have ih:=ZV r l (M.step r s x.x)
   have e:plain (x::l)=x.x::plain l:=rfl
   rw [ZO,e,M.kept]
   split
   · rw [← ih];rfl
   · exact ih
theorem abf (r:M.Rules):∀ (l:List Sh) (s:M.State),∀ x∈ZO r s l,x∈l
 | [],s,x,h=>h
 | y::l,s,x,h=>by
   rw [ZO] at h
   split at h
   · rcases List.mem_cons.1 h with rfl | h
     · exact List.mem_cons_self
     · exact List.mem_cons_of_mem _ (abf r l _ x h)
   · exact List.mem_cons_of_mem _ (abf r l _ x h)
theorem adr (r:M.Rules) (x:Sh):∀ (l:List Sh) (s:M.State),ZO r s (l++[x])=ZO r s l++(if M.legal r (M.final r s (plain l)) x.x=0 then [x] else [])
 | [],s=>by simp only [List.nil_append,ZO,plain,List.map_nil,M.final,List.foldl_nil]
 | y::l,s=>by
   have e:M.final r s (plain (y::l))=M.final r (M.step r s y.x) (plain l):=rfl
   rw [List.cons_append,ZO,ZO,adr r x l,e]
   split <;> rfl
theorem afb (r:M.Rules) (l:List Sh) (s:M.State):(ZO r s l).length≤l.length:=by
 have h:=M.ZW r (plain l) s
 rw [← ZV,eF,eF] at h
 exact h
def Zk (r:M.Rules) (l:List Sh) (k:Nat):List Sh:=ZO r (M.start r) (l.take k)
theorem ai3 (r:M.Rules) (l:List Sh):Zk r l 0=[]:=rfl
theorem Z8 (r:M.Rules) (l:List Sh) (k:Nat) (hk:k<l.length):Zk r l (k+1)=Zk r l k++(if M.legal r (lQ r l k) l[k].x=0 then [l[k]] else []):=by
 unfold Zk lQ
 rw [List.take_succ_eq_append_getElem hk,adr]
theorem af7 (r:M.Rules) (l:List Sh) (k:Nat):(Zk r l k).length≤l.length:=Nat.le_trans (afb _ _ _) (by rw [List.length_take];omega)
theorem ab6 (r:M.Rules) (l:List Sh):lK r l 0=[]:=by unfold lK;simp [plain,M.jy]
structure SpI (W0:World) (B7:Nat) (WL:World) (r:M.Rules) (l:List Sh) (k:Nat) (A9:Option Addr) (c9:Nat) (Yv:Option Addr) (c10:Nat) (W:World):Prop where
 agn:Turn (fun b=>b=B7∨WL.heap.size≤b) WL W
 lt7:B7<WL.heap.size
 ge7:W0.heap.size≤B7
 adM:W.ownsRow WL.heap.size 66 7 (.slice A9 (Zk r l k).length c9) (Zk r l k).length (bI (Zk r l k))
 ZX:W.ownsRow WL.heap.size 51 2 (.slice Yv (lK r l k).length c10) (lK r l k).length ((lK r l k).flatMap acO)
 ne:∀ g,(Value.slice A9 (Zk r l k).length c9).ownBlock=some g→(Value.slice Yv (lK r l k).length c10).ownBlock≠some g
 s:∃ As cs,Held W B7 (aW (lQ r l k) As cs) 33∧bD W (fun b=>b≠B7∧(Value.slice A9 (Zk r l k).length c9).ownBlock≠some b∧(Value.slice Yv (lK r l k).length c10).ownBlock≠some b) As cs (lQ r l k).ay
 bw:Below W0.heap.size W0 W
section
variable {W0 WL W W':World} {B7 k c9 c10:Nat} {r:M.Rules} {l:List Sh} {A9 Yv:Option Addr}
theorem SpI.below (h:SpI W0 B7 WL r l k A9 c9 Yv c10 W) (hb:Below W.heap.size W W'):SpI W0 B7 WL r l k A9 c9 Yv c10 W':=by
 obtain ⟨As,cs,h1,h2⟩:=h.s
 exact ⟨h.agn.trans (X':=fun _=>False) (Turn.of_below hb) (fun b h=>h.elim),h.lt7,h.ge7,bT h.adM (fun g hg=>hb.block g (ZY h.adM hg)),bT h.ZX (fun g hg=>hb.block g (ZY h.ZX hg)),h.ne,⟨As,cs,h1.below hb,h2.below hb⟩,VY h.bw hb⟩
theorem SpI.old {b:Nat} (h:SpI W0 B7 WL r l k A9 c9 Yv c10 W) (hb:b<WL.heap.size) (hn:b≠B7) {cs:List Value} {t:TypeId} (hh:Held WL b cs t):Held W b cs t:=hh.turn h.agn (fun hx=>by rcases hx with hx | hx;exact hn hx;omega)
theorem SpI.set {t:M.State} {A1:Option Addr} {c1:Nat} {A9':Option Addr} {c9':Nat} (h:Turn (fun b=>b=B7∨WL.heap.size≤b) WL W) (lt7:B7<WL.heap.size) (ge7:W0.heap.size≤B7)
 (adM:W.ownsRow WL.heap.size 66 7 (.slice A9' (Zk r l (k+1)).length c9') (Zk r l (k+1)).length (bI (Zk r l (k+1))))
 (ZX:W.ownsRow WL.heap.size 51 2 (.slice Yv (lK r l (k+1)).length c10) (lK r l (k+1)).length ((lK r l (k+1)).flatMap acO))
 (ne:∀ g,(Value.slice A9' (Zk r l (k+1)).length c9').ownBlock=some g→(Value.slice Yv (lK r l (k+1)).length c10).ownBlock≠some g) (ht:lQ r l (k+1)=t) {cs0:List Value} (hs:Held W B7 cs0 33) (hl:cs0.length=15)
 (hr:bD W (fun b=>b≠B7∧(Value.slice A9' (Zk r l (k+1)).length c9').ownBlock≠some b∧(Value.slice Yv (lK r l (k+1)).length c10).ownBlock≠some b) A1 c1 t.ay) (hb:Below W0.heap.size W0 W):
 SpI W0 B7 WL r l (k+1) A9' c9' Yv c10 (W.setCells B7 0 (aW t A1 c1)):=by
 subst ht
 have hf:∀ {e:TypeId} {size n:Nat} {v:Value} {xs:List Value},W.ownsRow WL.heap.size e size v n xs→(W.setCells B7 0 (aW (lQ r l (k+1)) A1 c1)).ownsRow WL.heap.size e size v n xs:=fun ho=>
  bT ho (fun g hg=>Held.lC (by have:=(bg ho hg).1;omega) _ _ _)
 exact ⟨h.trans (l7 (X:=fun b=>b=B7) rfl _ _) (fun b h=> .inl (.inl h)),lt7,ge7,hf adM,hf ZX,ne,⟨A1,c1,hs.whole _ (by rw [hl];rfl),bD.sets (fun h'=>h'.1 rfl) _ _ _ hr⟩,below_setCells _ ge7 _ _ _ _ hb⟩
theorem SpI.no {w4:World} {g1 cap:Nat} {o:Obj} (h:SpI W0 B7 WL r l k A9 c9 Yv c10 W) (hk:k<l.length) (hl:¬ M.legal r (lQ r l k) l[k].x=0) (hgrow:(W.alloc o).grownBy w4 (Value.slice Yv (lK r l k).length c10).ownBlock)
 (hown4:w4.ownsRow WL.heap.size 51 2 (.slice (some ⟨g1,0,none⟩) ((lK r l k).length+1) cap) ((lK r l k).length+1) ((lK r l k).flatMap acO++acO ⟨(k:Int)+1,M.legal r (lQ r l k) l[k].x⟩)) (hat:(Value.slice Yv (lK r l k).length c10).ownBlock=some g1∨g1=W.heap.size+1):
 SpI W0 B7 WL r l (k+1) A9 c9 (some ⟨g1,0,none⟩) cap w4:=by
 have e1:Zk r l (k+1)=Zk r l k:=by rw [Z8 r l k hk,if_neg hl,List.append_nil]
 have e2:lK r l (k+1)=lK r l k++[⟨(k:Int)+1,M.legal r (lQ r l k) l[k].x⟩]:=by rw [Ew r l k hk,if_pos hl]
 have e3:lQ r l (k+1)=lQ r l k:=by rw [vF r l k hk,am9 hl]
 have hge:∀ g,(Value.slice Yv (lK r l k).length c10).ownBlock=some g→WL.heap.size≤g:=fun g hg=>(bg h.ZX hg).1
 have h7:(Value.slice Yv (lK r l k).length c10).ownBlock≠some B7:=fun e=>by have:=hge _ e;have:=h.lt7;omega
 have hwl:WL.heap.size≤W.heap.size:=h.agn.size
 obtain ⟨As,cs,h1,h2⟩:=h.s
 have hne:∀ b,b<W.heap.size→(Value.slice Yv (lK r l k).length c10).ownBlock≠some b→(some g1:Option Nat)≠some b:=fun b hb hn e=>by
  cases e
  rcases hat with h3 | h3
  · exact hn h3
  · omega
 refine ⟨h.agn.trans (aeC (X:=fun b=>WL.heap.size≤b) hgrow hge) (fun b hb=> .inl (.inr hb)),h.lt7,h.ge7,?_,?_,?_,⟨As,cs,?_,?_⟩,?_⟩
 · rw [e1]
   exact bT h.adM (fun g hg=>Zq hgrow (ZY h.adM hg) (h.ne g hg))
 · rw [e2,List.length_append,List.flatMap_append]
   have:[(⟨(k:Int)+1,M.legal r (lQ r l k) l[k].x⟩:M.uZ)].flatMap acO=acO ⟨(k:Int)+1,M.legal r (lQ r l k) l[k].x⟩:=by simp
   rw [this]
   exact hown4
 · rw [e1]
   exact fun g hg=>hne g (ZY h.adM hg) (h.ne g hg)
 · rw [e3];exact h1.blk (Zq hgrow (by have:=h.lt7;omega) h7)
 · rw [e1,e3]
   exact aev hgrow h2 (fun b hb hS=>⟨hS.2.2,hS.1,hS.2.1,hne b hb hS.2.2⟩)
 · exact h.bw.trans ((Below.refl _ _).trans ⟨hgrow.os,hgrow.tape,hgrow.output,Nat.le_trans (by simp) hgrow.size,fun b hb=>Zq hgrow (by have:=h.bw.size;omega) (fun e=>by have:=hge b e;have:=h.ge7;have:=h.lt7;omega)⟩)
theorem SpI.yes {w4:World} {g1 cap:Nat} {o:Obj} {A1:Option Addr} {c1:Nat} (h:SpI W0 B7 WL r l k A9 c9 Yv c10 W) (hk:k<l.length) (hl:M.legal r (lQ r l k) l[k].x=0) (hgrow:(W.alloc o).grownBy w4 (Value.slice A9 (Zk r l k).length c9).ownBlock)
 (hown4:w4.ownsRow WL.heap.size 66 7 (.slice (some ⟨g1,0,none⟩) ((Zk r l k).length+1) cap) ((Zk r l k).length+1) (bI (Zk r l k)++au l[k])) (hat:(Value.slice A9 (Zk r l k).length c9).ownBlock=some g1∨g1=W.heap.size+1)
 (hr:bD W (fun b=>b≠B7∧(Value.slice A9 (Zk r l k).length c9).ownBlock≠some b∧(Value.slice Yv (lK r l k).length c10).ownBlock≠some b) A1 c1 (M.next r (lQ r l k) l[k].x).ay):
 (∃ cs0:List Value,Held w4 B7 cs0 33∧cs0.length=15)∧SpI W0 B7 WL r l (k+1) (some ⟨g1,0,none⟩) cap Yv c10 (w4.setCells B7 0 (aW (M.next r (lQ r l k) l[k].x) A1 c1)):=by
 have e1:Zk r l (k+1)=Zk r l k++[l[k]]:=by rw [Z8 r l k hk,if_pos hl]
 have e2:lK r l (k+1)=lK r l k:=by rw [Ew r l k hk,if_neg (by simp [hl]),List.append_nil]
 have e3:lQ r l (k+1)=M.next r (lQ r l k) l[k].x:=by rw [vF r l k hk,alY hl]
 have hge:∀ g,(Value.slice A9 (Zk r l k).length c9).ownBlock=some g→WL.heap.size≤g:=fun g hg=>(bg h.adM hg).1
 have h7:(Value.slice A9 (Zk r l k).length c9).ownBlock≠some B7:=fun e=>by have:=hge _ e;have:=h.lt7;omega
 have hwl:WL.heap.size≤W.heap.size:=h.agn.size
 obtain ⟨As,cs,h1,h2⟩:=h.s
 have hne:∀ b,b<W.heap.size→(Value.slice A9 (Zk r l k).length c9).ownBlock≠some b→(some g1:Option Nat)≠some b:=fun b hb hn e=>by
  cases e
  rcases hat with h3 | h3
  · exact hn h3
  · omega
 have hH:Held w4 B7 (aW (lQ r l k) As cs) 33:=h1.blk (Zq hgrow (by have:=h.lt7;omega) h7)
 refine ⟨⟨_,hH,rfl⟩,SpI.set (h.agn.trans (aeC (X:=fun b=>WL.heap.size≤b) hgrow hge) (fun b hb=> .inl (.inr hb))) h.lt7 h.ge7 ?_ ?_ ?_ e3 hH rfl ?_ ?_⟩
 · have hc:bI (Zk r l k++[l[k]])=bI (Zk r l k)++au l[k]:=by rw [nI];simp [bI]
   rw [e1,List.length_append,hc]
   exact hown4
 · rw [e2]
   exact bT h.ZX (fun g hg=>Zq hgrow (ZY h.ZX hg) (fun e=>h.ne g e hg))
 · rw [e2]
   exact fun g hg e=>hne g (ZY h.ZX e) (fun e2=>h.ne g e2 e) hg
 · rw [e2]
   exact aev hgrow hr (fun b hb hS=>⟨hS.2.1,hS.1,hne b hb hS.2.1,hS.2.2⟩)
 · exact h.bw.trans ((Below.refl _ _).trans ⟨hgrow.os,hgrow.tape,hgrow.output,Nat.le_trans (by simp) hgrow.size,fun b hb=>Zq hgrow (by have:=h.bw.size;omega) (fun e=>by have:=hge b e;have:=h.ge7;have:=h.lt7;omega)⟩)
end
noncomputable def ZM (n:Nat):Code:=dQ n ((Tryz.f12).body.getD .skip)
@[reducible] def SPQ (W0:World) (r:M.Rules) (l:List Sh) (Al:Option Addr) (cl:Nat) (F:Value→Value→Value→Value→Value→Value→Value→Value→Value→Value→Value→Value→Value→World→Prop) (n:Nat):Prop:=∀ (z0 z1 z2 z3 z4 z5 z6 z7 z8 z9 z10 z11 z12 z13 kD kK kF z17 kL jQ z20 z21 z22 z23 z24 z25 z26 z27 z28 z29 z30 z31 z32 z33 z34 z35 z36 z37 z38 z39 z40 z41 z42 z43 z44 z45 z46 z47 z48 z49 z50 z51 z52 z53 z54 z55 z56 z57 z58 z59 z60 z61 z62 z63 z64 z65 z66 z67 z68 z69 z70 z71 z72 z73 z74 z75 z76 z77 z78 z79 z80 mM z82 z83 z84 z85 z86 z87 mO z89 mP z91 mQ z93 mV mW mX mY mZ ng eU eX eY fA fB z105 fC z107 fD z109 fF fG fH fJ fK fM z116 z117 fO z119 fP fQ fU fV z124 fZ gq z127 gu gy z130 z131 gB gG gI gJ gK gQ z138 z139 gU z141 gV z143 gW z145 z146 gZ z148 ig iq iw z152 iy z154 iC z156 z157 iD z159 z160 iE z162 iF z164 iG iH z167 z168 nK nM z171 nN z173 nO z175 nP nR nS nT nU:Value) (W:World),F z1 z2 z5 z6 z7 z9 z10 z17 kL jQ z20 z21 z22 W→(ZM n).wp Tryz.prog (bodyPost Tryz.prog Tryz.f12 (fun e w'=>e= .returned (.bool true)∧Below W0.heap.size W0 w')) {tmps:= #[z0,z1,z2,z3,z4,z5,z6,z7,z8,z9,z10,z11,z12,z13,kD,kK,kF,z17,kL,jQ,z20,z21,z22,z23,z24,z25,z26,z27,z28,z29,z30,z31,z32,z33,z34,z35,z36,z37,z38,z39,z40,z41,z42,z43,z44,z45,z46,z47,z48,z49,z50,z51,z52,z53,z54,z55,z56,z57,z58,z59,z60,z61,z62,z63,z64,z65,z66,z67,z68,z69,z70,z71,z72,z73,z74,z75,z76,z77,z78,z79,z80,mM,z82,z83,z84,z85,z86,z87,mO,z89,mP,z91,mQ,z93,mV,mW,mX,mY,mZ,ng,eU,eX,eY,fA,fB,z105,fC,z107,fD,z109,fF,fG,fH,fJ,fK,fM,z116,z117,fO,z119,fP,fQ,fU,fV,z124,fZ,gq,z127,gu,gy,z130,z131,gB,gG,gI,gJ,gK,gQ,z138,z139,gU,z141,gV,z143,gW,z145,z146,gZ,z148,ig,iq,iw,z152,iy,z154,iC,z156,z157,iD,z159,z160,iE,z162,iF,z164,iG,iH,z167,z168,nK,nM,z171,nN,z173,nO,z175,nP,nR,nS,nT,nU],defers:=[] } W
def SpB (W0:World) (r:M.Rules) (v5 v7:Value) (W:World):Prop:=∃ B7 A c,v7=ptr B7∧W0.heap.size<B7∧Held W B7 (aW (M.start r) A c) 33∧bD W (fun b=>b≠B7) A c (M.start r).ay∧∀ b,v5=ptr b→b<B7
structure SpE (W0:World) (r:M.Rules) (l:List Sh) (Al:Option Addr) (cl:Nat) (v1 v2 v7 v9 v10:Value) (W:World):Prop where
 a:ahi W0 r l Al cl v1 v2 W
 ok:ac2 r l 24
 s:acV (sW r l) 33 v7 W
 k:∃ A9 c9,v9= .slice A9 (Zk r l l.length).length c9∧wG W (fun _=>True) A9 c9 (Zk r l l.length)
 f:acr 2 ((xH r l).flatMap acO) (xH r l).length v10 W
theorem SpE.below {W0 W W':World} {r:M.Rules} {l:List Sh} {Al:Option Addr} {cl:Nat} {v1 v2 v7 v9 v10:Value} (h:SpE W0 r l Al cl v1 v2 v7 v9 v10 W) (hb:Below W.heap.size W W'):SpE W0 r l Al cl v1 v2 v7 v9 v10 W':=by
 obtain ⟨A9,c9,e9,h9⟩:=h.k
 exact ⟨h.a.below hb,h.ok,h.s.below hb,⟨A9,c9,e9,h9.below hb⟩,h.f.below hb⟩
theorem alK (r:M.Rules) (s:M.State) (x:M.aI) (A P:Option Addr) (c d:Nat) (w:World) (h1:M.jf r s=0) (h2:M.cZ x=0) (hp:bD w (fun _=>True) A c s.ay) (hpp:jl w (fun _=>True) P d x.aA):
 Calls Tryz.prog 49 #[jM r,wF s A c,iO x P d] w fun e w'=>e= .returned (.tuple #[.int .i64 (M.legal r s x),.int .i64 0])∧Below w.heap.size w w':=by
 have h0:aU [M.jf r s,M.cZ x]=0:=by rw [h1,h2];rfl
 have h:=aic _ r s x A P c d w hp hpp
 rw [h0,if_pos rfl] at h
 exact h
theorem amV {r:M.Rules} {s:M.State} {x:M.aI} {n:Int} (hr:M.aH r=0) (h1:M.jf r s=0) (h2:M.cZ x=0) (hok:M.Ok r n s) (hn:0≤n) (hn2:n≤900):
 (M.legal r s x=0→Zx r s x=0∧ZQ r s x=M.next r s x)∧(¬ M.legal r s x=0→Zx r s x=18):=by
 have hE:Zx r s x=if M.legal r s x≠0 then 18 else M.iP r (M.next r s x):=by unfold Zx;rw [h1,h2];rfl
 refine ⟨fun hl=>?_,fun hl=>by rw [hE,if_pos hl]⟩
 have hk:=M.OB hr hok (M.uw h2) (M.lawful hl) hn
 have h3:=M.aef hr hk (by omega)
 rw [M.acg hr hk] at h3
 have h4:Zx r s x=0:=by rw [hE,if_neg (by simp [hl]),h3]
 exact ⟨h4,if_pos h4⟩
theorem aqZ {r:M.Rules} {l:List Sh} (h:ac2 r l 24) (k:Nat) (hk:k≤l.length):M.Ok r (1+16*(k:Int)) (lQ r l k):=
 wU h.rules (fun e he=>((M.aa6 _).1 h.log).2 _ (List.mem_map_of_mem he)) k hk
@[reducible] def apv (W0:World) (r:M.Rules) (l:List Sh) (Al:Option Addr) (cl:Nat):Prop:=SPQ W0 r l Al cl (fun z1 z2 _ _ _ _ _ _ _ _ _ _ _ W=>ahi W0 r l Al cl z1 z2 W) 1
@[reducible] def an7 (W0:World) (r:M.Rules) (l:List Sh) (Al:Option Addr) (cl:Nat):Prop:=SPQ W0 r l Al cl (fun z1 z2 z5 z6 _ _ _ _ _ _ _ _ _ W=>aiI W0 r l Al cl z1 z2 z5 z6 W) 2
@[reducible] def aoe (W0:World) (r:M.Rules) (l:List Sh) (Al:Option Addr) (cl:Nat):Prop:=SPQ W0 r l Al cl (fun z1 z2 z5 z6 _ _ _ _ _ _ _ _ _ W=>aiI W0 r l Al cl z1 z2 z5 z6 W∧ac2 r l 24) 3
@[reducible] def aol (W0:World) (r:M.Rules) (l:List Sh) (Al:Option Addr) (cl:Nat):Prop:=SPQ W0 r l Al cl (fun z1 z2 z5 z6 z7 z9 z10 _ _ _ _ _ _ W=>(aiI W0 r l Al cl z1 z2 z5 z6 W∧ac2 r l 24)∧SpB W0 r z5 z7 W∧z9= .slice none 0 0∧z10= .slice none 0 0) 7
@[reducible] def ajQ (W0:World) (r:M.Rules) (l:List Sh) (Al:Option Addr) (cl:Nat):Prop:=SPQ W0 r l Al cl (fun z1 z2 _ _ z7 z9 z10 _ _ _ _ _ _ W=>SpE W0 r l Al cl z1 z2 z7 z9 z10 W) 8
@[reducible] def ajX (W0:World) (r:M.Rules) (l:List Sh) (Al:Option Addr) (cl:Nat):Prop:=SPQ W0 r l Al cl (fun z1 z2 _ _ z7 z9 z10 z17 kL jQ _ _ _ W=>SpE W0 r l Al cl z1 z2 z7 z9 z10 W∧acV (sW r l) 33 z17 W∧acr 2 ((xH r l).flatMap acO) (xH r l).length kL W∧jQ= .int .i64 0) 9
@[reducible] def aj6 (W0:World) (r:M.Rules) (l:List Sh) (Al:Option Addr) (cl:Nat):Prop:=SPQ W0 r l Al cl (fun z1 z2 _ _ z7 z9 z10 z17 kL jQ z20 z21 z22 W=>SpE W0 r l Al cl z1 z2 z7 z9 z10 W∧(acV (sW r l) 33 z17 W∧acr 2 ((xH r l).flatMap acO) (xH r l).length kL W∧jQ= .int .i64 0)∧acV (sW r l) 33 z20 W∧acr 2 [] 0 z21 W∧z22= .int .i64 0) 10
@[reducible] def ake (W0:World) (r:M.Rules) (l:List Sh) (Al:Option Addr) (cl:Nat):Prop:=SPQ W0 r l Al cl (fun _ _ _ _ _ _ z10 _ kL _ _ _ _ W=>acr 2 ((xH r l).flatMap acO) (xH r l).length kL W∧acr 2 ((xH r l).flatMap acO) (xH r l).length z10 W∧Below W0.heap.size W0 W) 11
@[reducible] def akl (W0:World) (r:M.Rules) (l:List Sh) (Al:Option Addr) (cl:Nat):Prop:=SPQ W0 r l Al cl (fun _ _ _ _ _ _ _ _ _ _ _ _ _ W=>Below W0.heap.size W0 W) 12
theorem asq (W0:World) (r:M.Rules) (l:List Sh) (Al:Option Addr) (cl:Nat) (HG:Hid (Glob W0)) (HL:Hid (wG W0 (fun b=>b<W0.heap.size) Al cl l)) (HN:Hid (an7 W0 r l Al cl)):apv W0 r l Al cl:=by
 dsimp only [apv,SPQ]
 intros
 rename_i W hf
 dsimp only [ZM,dQ,Tryz.f12,Option.getD]
 have hF:=hf
 obtain ⟨rfl,rfl,h2,_,_,_,_⟩:=hf
 have hr2:∀ W',(fun w':World=>Below W.heap.size W w') W'→W'.rangeAt W0.heap.size 0 ([.string r.game,.int .i64 r.target,.int .i64 r.aY]):=fun W' h=>(h2.below h).range
 apply wp_seq_k
 intro K hK
 have HK:=hide hK
 clear hK
 refine wp_region_held_drew (S:=(fun w':World=>Below W.heap.size W w')) (by kernel_rfl) ?uQ (fun hHeld=>?_)
 case uQ=>exact (Below.refl _ _).drew
 refine wpAnyH_take (i:=0) (oi:=_) (v:=_) (ga rfl) (by kernel_rfl) (by kernel_rfl) (by kernel_rfl) (fun _ _ _ h=>h) (yieldsIf_load_mid (by rfl) _ _ (by rfl) _ _ (by rfl) _ _ hr2 Tryz.underlying23 rfl (by kernel_rfl)) (by assumption) ?_
 try simp only [Act.put,la,lz,ls]
 refine tk 1 ?_
 refine wpAnyH_ready (rs:=[2,3]) (by kernel_rfl) (by simp) ?_
 refine AllReadyH.cons (o:=_) (ga rfl) (fun K hK=>?_) (AllReadyH.cons (o:=_) (ga rfl) (fun K hK=>?_) AllReadyH.nil)
 · go_simp
   (go_at_call 15;refine (aax (fun _=>True) l Al cl _ (hF.rl.below hHeld) hF.ll hF.pl).mono ?_;rintro e w6 ⟨l',A6,c6,hpl,rfl,kP,hb6⟩;have iR:W.heap.size≤w6.heap.size:=Nat.le_trans hHeld.size hb6.size)
   refine hK.out _ _ ?amH (fun hHeld=>?_)
   case amH=>(exact hHeld.trans (hb6.mono hHeld.size))
   clear hK K
   try simp only [Act.put,la,lz,ls]
   refine tr 3 fun K hK=>?_
   go_simp
   refine hK.out _ _ ?ak8 (fun hHeld=>?_)
   case ak8=>(exact Below.alloc hHeld hHeld.size _)
   clear hK K
   try simp only [Act.put,la,lz,ls]
   refine tr 4 fun K hK=>?_
   refine bF (cs:=[.string ⟨#[]⟩,.int .i64 0,.int .i64 0]) (by first | exact (Held.newAt _ [.string ⟨#[]⟩,.int .i64 0,.int .i64 0] 25 (by first | rfl | simp)) | exact (Held.newAt _ [.string ⟨#[]⟩,.int .i64 0,.int .i64 0] 25 (by first | rfl | simp)).drew.below hb6) [.string r.game,.int .i64 r.target,.int .i64 r.aY] rfl Zf (xI _ _ _) (.tmp 5) (.tmp 24) rfl rfl rfl ?_
   refine hK.out _ _ ?aln (fun hHeld=>?_)
   case aln=>(exact below_setCells _ (by first | exact Nat.le_refl _ | exact iR | exact Nat.le_succ _ | exact Nat.le_succ_of_le iR) _ _ _ _ hHeld)
   clear hK K
   try simp only [Act.put,la,lz,ls]
   refine tk 5 ?_
   refine wpAnyH_done (by kernel_rfl) ?_ _
   refine HK.out _ _ ?_
   apply HN.out
   refine ⟨hF.below hHeld,_,A6,c6,l',rfl,?_,rfl,hpl,?_⟩
   · exact Held.whole (cs:=[.string ⟨#[]⟩,.int .i64 0,.int .i64 0]) (by first | exact (Held.newAt _ [.string ⟨#[]⟩,.int .i64 0,.int .i64 0] 25 (by first | rfl | simp)) | exact (Held.newAt _ [.string ⟨#[]⟩,.int .i64 0,.int .i64 0] 25 (by first | rfl | simp)).drew.below hb6) _ rfl
   · exact wG.more (wG.anM kP (by first | exact Below.refl _ _ | exact (Below.refl _ _).alloc (Nat.le_refl _) _) (fun b hl h=>by have hq:=hb6.size;(try simp at hq);(try simp at h);intro e;omega)) (fun _ _ _=>trivial)
 · go_simp
   refine hK.out _ _ ?alf (fun hHeld=>?_)
   case alf=>(exact Below.alloc hHeld hHeld.size _)
   clear hK K
   try simp only [Act.put,la,lz,ls]
   refine tr 2 fun K hK=>?_
   go_simp
   (go_at_call 15;refine (aax (fun _=>True) l Al cl _ (hF.rl.below hHeld) hF.ll hF.pl).mono ?_;rintro e w6 ⟨l',A6,c6,hpl,rfl,kP,hb6⟩;have iR:W.heap.size≤w6.heap.size:=Nat.le_trans hHeld.size hb6.size)
   refine hK.out _ _ ?ak1 (fun hHeld=>?_)
   case ak1=>(exact hHeld.trans (hb6.mono hHeld.size))
   clear hK K
   try simp only [Act.put,la,lz,ls]
   refine tr 4 fun K hK=>?_
   refine bF (cs:=[.string ⟨#[]⟩,.int .i64 0,.int .i64 0]) (by first | exact (Held.newAt _ [.string ⟨#[]⟩,.int .i64 0,.int .i64 0] 25 (by first | rfl | simp)) | exact (Held.newAt _ [.string ⟨#[]⟩,.int .i64 0,.int .i64 0] 25 (by first | rfl | simp)).drew.below hb6) [.string r.game,.int .i64 r.target,.int .i64 r.aY] rfl Zf (xI _ _ _) (.tmp 5) (.tmp 24) rfl rfl rfl ?_
   refine hK.out _ _ ?alv (fun hHeld=>?_)
   case alv=>(exact below_setCells _ (by first | exact Nat.le_refl _ | exact iR | exact Nat.le_succ _ | exact Nat.le_succ_of_le iR) _ _ _ _ hHeld)
   clear hK K
   try simp only [Act.put,la,lz,ls]
   refine tk 5 ?_
   refine wpAnyH_done (by kernel_rfl) ?_ _
   refine HK.out _ _ ?_
   apply HN.out
   refine ⟨hF.below hHeld,_,A6,c6,l',rfl,?_,rfl,hpl,?_⟩
   · exact Held.whole (cs:=[.string ⟨#[]⟩,.int .i64 0,.int .i64 0]) (by first | exact (Held.newAt _ [.string ⟨#[]⟩,.int .i64 0,.int .i64 0] 25 (by first | rfl | simp)) | exact (Held.newAt _ [.string ⟨#[]⟩,.int .i64 0,.int .i64 0] 25 (by first | rfl | simp)).drew.below hb6) _ rfl
   · exact wG.more (wG.anM kP (by first | exact Below.refl _ _ | exact (Below.refl _ _).alloc (Nat.le_refl _) _) (fun b hl h=>by have hq:=hb6.size;(try simp at hq);(try simp at h);intro e;omega)) (fun _ _ _=>trivial)
theorem asz (W0:World) (r:M.Rules) (l:List Sh) (Al:Option Addr) (cl:Nat) (HG:Hid (Glob W0)) (HL:Hid (wG W0 (fun b=>b<W0.heap.size) Al cl l)) (HN:Hid (aoe W0 r l Al cl)):an7 W0 r l Al cl:=by
 dsimp only [an7,SPQ]
 intros
 rename_i W hf
 dsimp only [ZM,dQ,Tryz.f12,Option.getD]
 have hE:=hf
 obtain ⟨hF,B5,A6,c6,l',rfl,h5,rfl,hpl,h6⟩:=id hE
 have hF':=hF
 obtain ⟨rfl,rfl,h2,hl,ao8,ao1,hbw⟩:=hF'
 have k0:=h2.cell (j:=0) rfl
 have HG9:=hide (HG.out.below hbw)
 apply wp_seq_k
 intro K hK
 have HK:=hide hK
 clear hK
 apply wp_seq_k
 intro K2 hK2
 have PD:=hide hK2
 clear hK2
 by_cases hg:60<r.game.size
 · have hg':(60:Int)<(r.game.size:Int):=by omega
   go_wp2_with (first | (refine aN 25 (.tmp 5) rfl ?_;refine aG (h5') Tryz.underlying25 rfl Zf rfl (.tmp 5) rfl rfl ?_) | (refine aN 25 (.tmp 5) rfl ?_;refine su (h5') Tryz.underlying25 rfl Zf rfl (.tmp 5) rfl rfl ?_) | (refine vg 25 (.tmp 5) rfl ?_;refine sD (h5') Tryz.underlying25 rfl Zf (.tmp 5) rfl rfl ?_) | (go_at_call 16;refine (Zr _ l' A6 c6 24 _ h6).mono ?_;rw [hpl,hd2];rintro e w2 ⟨rfl,hb2⟩;have HG9:=hide (HG9.out.below hb2);have h5':=h5.below hb2;have h6':=h6.below hb2;dsimp only) | (go_at_call 20;refine (Zn _ r l' A6 c6 _ h6').mono ?_;rw [hpl,hEq];rintro e w3 ⟨rfl,hb3⟩;have HG9:=hide (HG9.out.below hb3);dsimp only))
   refine PD.out _ _ ?_
   go_wp2_with (first | (go_at_call 17;refine (QJ _ HG9.out).mono ?_;rintro e w9 ⟨rfl,U6⟩;dsimp only))
   go_ret
   exact ⟨rfl,VY hbw U6⟩
 · have hg':¬ (60:Int)<(r.game.size:Int):=by omega
   obtain ⟨sb,hd2⟩:∃ q,Z4 (plain l) 24=q:=⟨_,rfl⟩
   cases sb with
   | true=>
     by_cases Rw:l.length≤24
     · have aro:¬ (24:Int)<(l.length:Int):=by omega
       obtain ⟨E,hEq⟩:∃ E,aU [M.aH r,M.je (plain l)]=E:=⟨_,rfl⟩
       by_cases h0:E=0
       · subst h0
         have HOK:=hide (show ac2 r l 24 from ⟨Rw,(afR hEq).1,(afR hEq).2⟩)
         clear Rw
         go_wp2_with (first | (refine aN 25 (.tmp 5) rfl ?_;refine aG (h5') Tryz.underlying25 rfl Zf rfl (.tmp 5) rfl rfl ?_) | (refine aN 25 (.tmp 5) rfl ?_;refine su (h5') Tryz.underlying25 rfl Zf rfl (.tmp 5) rfl rfl ?_) | (refine vg 25 (.tmp 5) rfl ?_;refine sD (h5') Tryz.underlying25 rfl Zf (.tmp 5) rfl rfl ?_) | (go_at_call 16;refine (Zr _ l' A6 c6 24 _ h6).mono ?_;rw [hpl,hd2];rintro e w2 ⟨rfl,hb2⟩;have HG9:=hide (HG9.out.below hb2);have h5':=h5.below hb2;have h6':=h6.below hb2;dsimp only) | (go_at_call 20;refine (Zn _ r l' A6 c6 _ h6').mono ?_;rw [hpl,hEq];rintro e w3 ⟨rfl,hb3⟩;have HG9:=hide (HG9.out.below hb3);dsimp only))
         refine PD.out _ _ ?_
         go_wp2
         refine HK.out _ _ ?_
         apply HN.out
         exact ⟨(hE.below hb2).below hb3,HOK.out⟩
       · have hn0:(E != 0)=true:=by simpa using h0
         clear h0 Rw
         go_wp2_with (first | (refine aN 25 (.tmp 5) rfl ?_;refine aG (h5') Tryz.underlying25 rfl Zf rfl (.tmp 5) rfl rfl ?_) | (refine aN 25 (.tmp 5) rfl ?_;refine su (h5') Tryz.underlying25 rfl Zf rfl (.tmp 5) rfl rfl ?_) | (refine vg 25 (.tmp 5) rfl ?_;refine sD (h5') Tryz.underlying25 rfl Zf (.tmp 5) rfl rfl ?_) | (go_at_call 16;refine (Zr _ l' A6 c6 24 _ h6).mono ?_;rw [hpl,hd2];rintro e w2 ⟨rfl,hb2⟩;have HG9:=hide (HG9.out.below hb2);have h5':=h5.below hb2;have h6':=h6.below hb2;dsimp only) | (go_at_call 20;refine (Zn _ r l' A6 c6 _ h6').mono ?_;rw [hpl,hEq];rintro e w3 ⟨rfl,hb3⟩;have HG9:=hide (HG9.out.below hb3);dsimp only))
         refine PD.out _ _ ?_
         go_wp2_with (first | (go_at_call 17;refine (QJ _ HG9.out).mono ?_;rintro e w9 ⟨rfl,U6⟩;dsimp only))
         go_ret
         exact ⟨rfl,VY (VY (VY hbw hb2) hb3) U6⟩
     · have aro:(24:Int)<(l.length:Int):=by omega
       clear Rw
       go_wp2_with (first | (refine aN 25 (.tmp 5) rfl ?_;refine aG (h5') Tryz.underlying25 rfl Zf rfl (.tmp 5) rfl rfl ?_) | (refine aN 25 (.tmp 5) rfl ?_;refine su (h5') Tryz.underlying25 rfl Zf rfl (.tmp 5) rfl rfl ?_) | (refine vg 25 (.tmp 5) rfl ?_;refine sD (h5') Tryz.underlying25 rfl Zf (.tmp 5) rfl rfl ?_) | (go_at_call 16;refine (Zr _ l' A6 c6 24 _ h6).mono ?_;rw [hpl,hd2];rintro e w2 ⟨rfl,hb2⟩;have HG9:=hide (HG9.out.below hb2);have h5':=h5.below hb2;have h6':=h6.below hb2;dsimp only) | (go_at_call 20;refine (Zn _ r l' A6 c6 _ h6').mono ?_;rw [hpl,hEq];rintro e w3 ⟨rfl,hb3⟩;have HG9:=hide (HG9.out.below hb3);dsimp only))
       refine PD.out _ _ ?_
       go_wp2_with (first | (go_at_call 17;refine (QJ _ HG9.out).mono ?_;rintro e w9 ⟨rfl,U6⟩;dsimp only))
       go_ret
       exact ⟨rfl,VY (VY hbw hb2) U6⟩
   | false=>
     go_wp2_with (first | (refine aN 25 (.tmp 5) rfl ?_;refine aG (h5') Tryz.underlying25 rfl Zf rfl (.tmp 5) rfl rfl ?_) | (refine aN 25 (.tmp 5) rfl ?_;refine su (h5') Tryz.underlying25 rfl Zf rfl (.tmp 5) rfl rfl ?_) | (refine vg 25 (.tmp 5) rfl ?_;refine sD (h5') Tryz.underlying25 rfl Zf (.tmp 5) rfl rfl ?_) | (go_at_call 16;refine (Zr _ l' A6 c6 24 _ h6).mono ?_;rw [hpl,hd2];rintro e w2 ⟨rfl,hb2⟩;have HG9:=hide (HG9.out.below hb2);have h5':=h5.below hb2;have h6':=h6.below hb2;dsimp only) | (go_at_call 20;refine (Zn _ r l' A6 c6 _ h6').mono ?_;rw [hpl,hEq];rintro e w3 ⟨rfl,hb3⟩;have HG9:=hide (HG9.out.below hb3);dsimp only))
     refine PD.out _ _ ?_
     go_wp2_with (first | (go_at_call 17;refine (QJ _ HG9.out).mono ?_;rintro e w9 ⟨rfl,U6⟩;dsimp only))
     go_ret
     exact ⟨rfl,VY (VY hbw hb2) U6⟩
theorem asG (W0:World) (r:M.Rules) (l:List Sh) (Al:Option Addr) (cl:Nat) (HG:Hid (Glob W0)) (HL:Hid (wG W0 (fun b=>b<W0.heap.size) Al cl l)) (HN:Hid (aol W0 r l Al cl)):aoe W0 r l Al cl:=by
 dsimp only [aoe,SPQ]
 intros
 rename_i W hf
 dsimp only [ZM,dQ,Tryz.f12,Option.getD]
 obtain ⟨hE,hO⟩:=hf
 obtain ⟨hA,B5,A6,c6,l',rfl,h5,rfl,hpl,h6⟩:=id hE
 obtain ⟨rfl,rfl,h2,hl,ao8,ao1,hbw⟩:=hA
 obtain ⟨s0,hs0⟩:∃ q,M.start r=q:=⟨_,rfl⟩
 have hst:=fun W=>ain r W
 simp only [hO.rules,if_true,hs0] at hst
 have HST:=hide hst
 have HS0:=hide hs0
 have HO:=hide hO
 clear hst hs0 hO
 apply wp_seq_k
 intro K hK
 have HK:=hide hK
 clear hK
 go_wp2_with (first | (refine aN 23 (.tmp 2) rfl ?_;refine aG (h2) Tryz.underlying23 rfl kV rfl (.tmp 2) rfl rfl ?_) | (go_at_call 36;refine (HST.out _).mono ?_;rintro e w1 ⟨A1,c1,rfl,hr1,hb1⟩;have hbx:=Held.new w1 aj 33;dsimp only) | (refine aO 33 (.tmp 7) (.tmp 51) rfl ?_;refine aF hbx (aW s0 A1 c1) rfl bW (dL _ _ _) rfl (.tmp 7) (.tmp 51) rfl rfl rfl ?_))
 refine HK.out _ _ ?_
 refine aiB (p:=fun W=>Code.wp _ _ _ _ W) (fun w2 hw2=>?_)
 have hb2:Below w1.heap.size w1 w2:=by rw [hw2];exact below_setCells _ (Nat.le_refl _) _ _ _ _ ((Below.refl _ _).alloc (Nat.le_refl _) _)
 have h7:Held w2 w1.heap.size (aW s0 A1 c1) 33:=by rw [hw2];exact hbx.whole _ rfl
 have Qb:bD w2 (fun b=>b≠w1.heap.size) A1 c1 s0.ay:=(bD.more hr1 (fun b hl _=>Nat.ne_of_lt hl)).below hb2
 have hbb:=hb1.trans (hb2.mono hb1.size)
 have hq:=hb1.size
 have hq2:=h2.lt
 have hq5:=h5.lt
 clear hw2 hbx hr1
 apply wp_seq_k
 intro K2 hK2
 have PD:=hide hK2
 clear hK2
 apply wp_seq_k
 intro K3 hK3
 have HK3:=hide hK3
 clear hK3
 go_wp2
 refine HK3.out _ _ ?_
 refine wp_cond_false rfl ?_
 go_wp2
 refine PD.out _ _ ?_
 apply wp_seq_k
 intro K4 hK4
 have HK4:=hide hK4
 clear hK4
 go_wp2
 refine HK4.out _ _ ?_
 apply wp_seq_k
 intro K5 hK5
 have HK5:=hide hK5
 clear hK5
 go_wp2
 refine HK5.out _ _ ?_
 apply HN.out
 exact ⟨⟨hE.below hbb,HO.out⟩,⟨w1.heap.size,A1,c1,rfl,by omega,by rw [HS0.out];exact h7,by rw [HS0.out];exact Qb,fun b hb=>by cases hb;omega⟩,rfl,rfl⟩
theorem alR {W0 WL:World} {r:M.Rules} {l:List Sh} {B7:Nat} {A:Option Addr} {c:Nat} (hb:Below W0.heap.size W0 WL) (h7:W0.heap.size<B7) (hh:Held WL B7 (aW (M.start r) A c) 33) (hr:bD WL (fun b=>b≠B7) A c (M.start r).ay):SpI W0 B7 WL r l 0 none 0 none 0 WL:=by
 have hs:lQ r l 0=M.start r:=by unfold lQ;simp [plain,M.final]
 refine ⟨Turn.refl _ _,hh.lt,Nat.le_of_lt h7,?_,?_,fun g hg=>(by cases hg),⟨A,c,by rw [hs];exact hh,?_⟩,hb⟩
 · rw [ai3];exact World.ownsRow_nil _ _ _ _
 · rw [ab6];exact World.ownsRow_nil _ _ _ _
 · rw [hs]
   exact bD.more hr (fun b _ h=>⟨h,(fun e=>by cases e),(fun e=>by cases e)⟩)
theorem apn {W0 WL W:World} {r:M.Rules} {l:List Sh} {Al:Option Addr} {cl B7 c9 c10:Nat} {A9 Yv:Option Addr} {v1 v2:Value} (h:SpI W0 B7 WL r l l.length A9 c9 Yv c10 W) (hok:ac2 r l 24) (ha:ahi W0 r l Al cl v1 v2 WL) (h7:W0.heap.size<B7) (HL:wG W0 (fun b=>b<W0.heap.size) Al cl l):SpE W0 r l Al cl v1 v2 (ptr B7) (.slice A9 (Zk r l l.length).length c9) (.slice Yv (lK r l l.length).length c10) W:=by
 have h0:wP r l=0:=by unfold wP aU;rw [if_neg (by simp [hok.rules]),aU,if_neg (by simp [hok.log])];rfl
 have hs:lQ r l l.length=sW r l:=by unfold sW lQ;rw [if_pos h0,List.take_length]
 have hf:lK r l l.length=xH r l:=by unfold xH lK;rw [if_pos h0,List.take_length]
 obtain ⟨As,cs,h1,h2⟩:=h.s
 have hp:=HL.below h.bw
 have Rw:=hok.len
 have hkl:=af7 r l l.length
 have hrl:=zY r l l.length
 refine ⟨⟨ha.e1,ha.e2,h.old ha.h2.lt (by omega) ha.h2,hp.more (fun _ _ _=>trivial),ha.pl,ha.ll,h.bw⟩,hok,⟨B7,As,cs,rfl,by rw [← hs];exact h1,by rw [← hs];exact bD.more h2 (fun _ _ _=>trivial)⟩,⟨A9,c9,rfl,Reads.kG h.adM (fun _ _=>trivial) (by omega),fun e he=>?_⟩,⟨Yv,c10,by rw [hf],?_⟩⟩
 · exact Reads.more (hp.2 e (List.mem_of_mem_take (abf r _ _ e he))) (fun _ _ _=>trivial)
 · rw [← hf]
   exact Reads.kG h.ZX (fun _ _=>trivial) (by omega)
theorem amO {r:M.Rules} {l:List Sh} (hok:ac2 r l 24):wP r (Zk r l l.length)=0∧sW r (Zk r l l.length)=sW r l∧xH r (Zk r l l.length)=[]:=by
 have h0:wP r l=0:=by unfold wP aU;rw [if_neg (by simp [hok.rules]),aU,if_neg (by simp [hok.log])];rfl
 have hk:plain (Zk r l l.length)=M.kept r (M.start r) (plain l):=by unfold Zk;rw [List.take_length,ZV]
 have h1:wP r (Zk r l l.length)=0:=by unfold wP aU;rw [hk,if_neg (by simp [hok.rules]),aU,if_neg (by simp [M.akN hok.log])];rfl
 refine ⟨h1,?_,?_⟩
 · unfold sW;rw [if_pos h1,if_pos h0,hk,M.aaj]
 · unfold xH;rw [if_pos h1,hk,M.ZL]
theorem asN (W0:World) (r:M.Rules) (l:List Sh) (Al:Option Addr) (cl:Nat) (HG:Hid (Glob W0)) (HL:Hid (wG W0 (fun b=>b<W0.heap.size) Al cl l)) (HN:Hid (ajQ W0 r l Al cl)):aol W0 r l Al cl:=by
 dsimp only [aol,SPQ]
 intros
 rename_i W hf
 dsimp only [ZM,dQ,Tryz.f12,Option.getD]
 obtain ⟨⟨hE,hO⟩,⟨B7,A7,c7,rfl,Oi,hH7,hR7,NM⟩,rfl,rfl⟩:=hf
 obtain ⟨WL,rfl⟩:∃ q:World,q=W:=⟨_,rfl⟩
 obtain ⟨hA,B5,A6,c6,l',rfl,h5,rfl,hpl,h6⟩:=id hE
 have hA':=hA
 obtain ⟨rfl,rfl,h2,hl,ao8,ao1,hbw⟩:=hA
 have asV:=NM _ rfl
 have hI0:=alR (l:=l) hbw Oi hH7 hR7
 have HO:=hide (And.intro hO hA')
 have HB5:=hide NM
 have hlen:=hO.len
 clear hO hE hA' NM hpl ao8 ao1 h6 hl hR7 hH7
 apply wp_seq_k
 intro K1 hK1
 have Q9:=hide hK1
 clear hK1
 apply wp_seq_k
 intro K2 hK2
 have PD:=hide hK2
 clear hK2
 go_wp2
 refine PD.out _ _ ?_
 go_wp2
 go_loopw [9,10,57] (fun v9 v10 i wr=>∃ (k:Nat) (A9:Option Addr) (c9:Nat) (Yv:Option Addr) (c10:Nat),k≤l.length∧i= .int .i64 k∧v9= .slice A9 (Zk r l k).length c9∧v10= .slice Yv (lK r l k).length c10∧SpI W0 B7 WL r l k A9 c9 Yv c10 wr) (fun _ _ i _=>l.length - (intOf i).toNat)
 case atStart=>exact ⟨0,none,0,none,0,Nat.zero_le _,rfl,rfl,by rw [ab6];rfl,hI0⟩
 case round=>
  obtain ⟨k,A9,c9,Yv,c10,hk,rfl,rfl,rfl,hI⟩:=hrel
  clear hI0
  by_cases hlt:k<l.length
  · have hp:=HL.out.below hI.bw
    obtain ⟨b,o,rfl,hSb,hbl,hcs⟩:=Reads.at_ hp.1 (by omega)
    have h01:=abv ag4 hcs k hlt
    have hpo:=hp.aA k hlt
    have hsx:=((M.aa6 _).1 HO.out.1.log).2 _ (List.mem_map_of_mem (List.getElem_mem hlt))
    have hok:=aqZ HO.out.1 k hk
    have hck:=M.aef HO.out.1.rules hok (by omega)
    obtain ⟨s,hs⟩:∃ q,lQ r l k=q:=⟨_,rfl⟩
    obtain ⟨x,hx⟩:∃ q,l[k]=q:=⟨_,rfl⟩
    rw [hs] at hok hck
    rw [hx] at h01 hpo hsx
    have hbx:=Held.new wr JB 66
    have i1:(0:Int)≤(k:Int):=by omega
    have i2:(k:Int)<(l.length:Int):=by omega
    have HS:=hide hs
    have HX:=hide hx
    have HOK:=hide hok
    have HI':=hide hI
    have UF:=hide (And.intro hsx hck)
    clear hs hx hok hI hcs hp hsx hck
    go_upto_region 12 with (first | (refine aN 66 (.tmp 60) rfl ?_;refine jh (g:=b) (o:=o+k*7) h01 Tryz.underlying66 rfl aV rfl (.tmp 60) rfl rfl ?_) | (refine aO 66 (.tmp 12) (.tmp 61) rfl ?_;refine aF hbx (au x) rfl aV (uq _ _ _) rfl (.tmp 12) (.tmp 61) rfl rfl rfl ?_))
    refine aiB (p:=fun W=>Code.wp _ _ _ _ W) (fun w1 hw1=>?_)
    have hb1:Below wr.heap.size wr w1:=by rw [hw1];exact below_setCells _ (Nat.le_refl _) _ _ _ _ ((Below.refl _ _).alloc (Nat.le_refl _) _)
    have hx1:Held w1 wr.heap.size (au x) 66:=by rw [hw1];exact hbx.whole _ rfl
    have aiW:=Reads.more (Reads.below hpo hb1) (fun _ _ _=>trivial:∀ b,b<w1.heap.size→_→(fun _=>True) b)
    have hI1:=HI'.out.below hb1
    have HO1:=hide (And.intro hI1.adM hI1.ZX)
    obtain ⟨As,cs,h7,h7r⟩:=hI1.s
    rw [HS.out] at h7 h7r
    replace h7r:=bD.more h7r (fun _ _ _=>trivial:∀ b,b<w1.heap.size→_→(fun _=>True) b)
    have h2w:=hI1.old h2.lt (by omega) h2
    have h5w:=hI1.old h5.lt (by omega) h5
    have HI:=hide hI1
    obtain ⟨hsx,hck⟩:=UF.out
    have hc1:=fun W h=>ac9 (fun _=>True) r s As cs W h
    have hc2:=fun W h h'=>alK r s x.x As x.a cs x.c W hck hsx h h'
    have hc3:=fun W h h'=>ajo (fun _=>True) r s x.x As x.a cs x.c W h h'
    have hsn:=amV HO.out.1.rules hck hsx HOK.out (by omega) (by omega)
    simp only [hck] at hc1
    have HC1:=hide hc1
    clear hw1 hbx hb1 hpo hc1 h01 hI1 hsx hck HI' UF
    by_cases Vb:M.legal r s x.x=0
    · obtain ⟨e1,e2⟩:=hsn.1 Vb
      simp only [Vb] at hc2
      simp only [e1,e2] at hc3
      have HC2:=hide hc2
      have HC3:=hide hc3
      have HLG:=hide Vb
      clear hc2 hc3 Vb hsn e1 e2
      go_upto_region 14 with (first | (refine aN 25 (.tmp 5) rfl ?_;refine aG (h5w) Tryz.underlying25 rfl Zf rfl (.tmp 5) rfl rfl ?_) | (refine aN 25 (.tmp 5) rfl ?_;refine su (h5w) Tryz.underlying25 rfl Zf rfl (.tmp 5) rfl rfl ?_) | (refine vg 25 (.tmp 5) rfl ?_;refine sD (h5w) Tryz.underlying25 rfl Zf (.tmp 5) rfl rfl ?_) | (refine aN 33 (.tmp 7) rfl ?_;refine aG (h7) Tryz.underlying33 rfl bW rfl (.tmp 7) rfl rfl ?_) | (refine aN 33 (.tmp 7) rfl ?_;refine su (h7) Tryz.underlying33 rfl bW rfl (.tmp 7) rfl rfl ?_) | (refine vg 33 (.tmp 7) rfl ?_;refine sD (h7) Tryz.underlying33 rfl bW (.tmp 7) rfl rfl ?_) | (go_at_call 43;refine (HC1.out _ h7r).mono ?_;rintro e w2 ⟨rfl,hb2⟩;dsimp only))
      have hI2:=HI.out.below hb2
      have h2b:=h2w.below hb2
      have h7b:=h7.below hb2
      have ahp:=h7r.below hb2
      have hxb:=hx1.below hb2
      have hpb:=Reads.below aiW hb2
      clear h5w h2w h7 h7r hx1 aiW HI
      go_upto_region 15 with (first | (refine aN 23 (.tmp 2) rfl ?_;refine aG (h2b) Tryz.underlying23 rfl kV rfl (.tmp 2) rfl rfl ?_) | (refine aN 33 (.tmp 7) rfl ?_;refine aG (h7b) Tryz.underlying33 rfl bW rfl (.tmp 7) rfl rfl ?_) | (refine aN 66 (.tmp 12) rfl ?_;refine aG (hxb) Tryz.underlying66 rfl aV rfl (.tmp 12) rfl rfl ?_) | (go_at_call 49;refine (HC2.out _ ahp hpb).mono ?_;rintro e w3 ⟨rfl,hb3⟩;dsimp only))
      have hI3:=hI2.below hb3
      have h2c:=h2b.below hb3
      have h7c:=h7b.below hb3
      have akG:=ahp.below hb3
      have hxc:=hxb.below hb3
      have hpc:=Reads.below hpb hb3
      clear h2b h7b ahp hxb hpb hI2
      go_upto_region 16 with (first | (refine aN 23 (.tmp 2) rfl ?_;refine aG (h2c) Tryz.underlying23 rfl kV rfl (.tmp 2) rfl rfl ?_) | (refine aN 33 (.tmp 7) rfl ?_;refine aG (h7c) Tryz.underlying33 rfl bW rfl (.tmp 7) rfl rfl ?_) | (refine aN 66 (.tmp 12) rfl ?_;refine aG (hxc) Tryz.underlying66 rfl aV rfl (.tmp 12) rfl rfl ?_) | (go_at_call 44;refine (HC3.out _ akG hpc).mono ?_;rintro e w4 ⟨A1,c1,rfl,hr1,hb4⟩;have hbx2:=Held.new w4 aj 33;dsimp only) | (refine aO 33 (.tmp 15) (.tmp 78) rfl ?_;refine aF hbx2 (aW (M.next r s x.x) A1 c1) rfl bW (dL _ _ _) rfl (.tmp 15) (.tmp 78) rfl rfl rfl ?_))
      refine aiB (p:=fun W=>Code.wp _ _ _ _ W) (fun w5 hw5=>?_)
      have ahw:Below w4.heap.size w4 w5:=by rw [hw5];exact below_setCells _ (Nat.le_refl _) _ _ _ _ ((Below.refl _ _).alloc (Nat.le_refl _) _)
      have h15:Held w5 w4.heap.size (aW (M.next r s x.x) A1 c1) 33:=by rw [hw5];exact hbx2.whole _ rfl
      have ae4:=hb4.trans (ahw.mono hb4.size)
      have hI5:=hI3.below ae4
      have h7d:=h7c.below ae4
      have hxd:=hxc.below ae4
      have SC:=bD.below hr1 ahw
      have ar0:=hb4.size
      have arT:=hb3.size
      have arM:=hb2.size
      have hsI:=hI3.agn.size
      have H9:=hI3.lt7
      clear hw5 hbx2 h2c h7c akG hxc hpc hI3 ahw hr1 hb4 ae4 HC1 HC2 HC3
      have o13:=h7d.cell (j:=13) rfl
      have hov:s.over=false:=by
       cases h:s.over
       · rfl
       · exact absurd (M.adF (r:=r) (x:=x.x) h) (by rw [HLG.out];decide)
      rw [hov] at o13
      clear hov
      replace hxd:Held w5 wr.heap.size [.int .i64 x.x.aC,.string x.x.kind,.int .i64 x.x.aJ,.int .i64 x.x.aP,.int .i64 x.x.first,.bool x.x.dA,.slice x.a x.x.aA.length x.c] 66:=hxd
      go_upto_region 20 with (fail)
      obtain ⟨i0,hi0,hz0,hz1,hz2⟩:=info_parts yw
      have hoz:=hI5.adM
      have hkl:=af7 r l k
      have hs5:=h15.lt
      go_upto_region 21 with (first | (refine aN 66 (.tmp 12) rfl ?_;refine aG (hxd) Tryz.underlying66 rfl aV rfl (.tmp 12) rfl rfl ?_) | (at_builtin;refine wpList_append_lies _ rfl _ _ _ rfl WL.heap.size 66 i0 (.agg #[.int .i64 0,.string ⟨#[]⟩,.int .i64 0,.int .i64 0,.int .i64 0,.bool false,.slice none 0 0]) 7 80 Tryz.underlying24 hi0 hz0 hz1 hz2 rfl (by omega) _ _ _ rfl (hoz.alloc _) ⟨w5.heap.size,0,none⟩ 1 1 (au x) rfl rfl (dK _ _ _ _ rfl) (by simp [Value.oneCell',au]) (by omega) (by simp only [maxLen];omega) (by omega) (by simp;omega) (w5.heap.size+1) (by simp) ?_))
      intro g1 cap w6 hown6 hgrow hat arx
      have hlk:M.legal r (lQ r l k) l[k].x=0:=by rw [HS.out,HX.out];exact HLG.out
      have hge:∀ g,(Value.slice A9 (Zk r l k).length c9).ownBlock=some g→g<w1.heap.size:=fun g hg=>ZY HO1.out.1 hg
      have apJ:∀ g,(Value.slice Yv (lK r l k).length c10).ownBlock=some g→g<w1.heap.size:=fun g hg=>ZY HO1.out.2 hg
      have hY:=SpI.yes (A1:=A1) (c1:=c1) hI5 hlt hlk hgrow (by rw [HX.out];exact hown6) hat (by
       rw [HS.out,HX.out]
       exact bD.more SC (fun b hb h=>⟨by omega,fun e=>by have:=hge b e;omega,fun e=>by have:=apJ b e;omega⟩))
      rw [HS.out,HX.out] at hY
      obtain ⟨⟨cs0,h76,hcs0⟩,hI6⟩:=hY
      have arf:Held w6 w4.heap.size (aW (M.next r s x.x) A1 c1) 33:=h15.blk (Zq hgrow h15.lt (fun e=>by have:=hge _ e;omega))
      have hkp:Zk r l (k+1)=Zk r l k++[l[k]]:=by rw [Z8 r l k hlt,if_pos hlk]
      have hrf:lK r l (k+1)=lK r l k:=by rw [Ew r l k hlt,if_neg (by simp [hlk]),List.append_nil]
      have HKP:=hide (And.intro hkp hrf)
      have HI6:=hide hI6
      clear hkp hrf hI6 hgrow hown6 hat hge apJ hlk hoz hI5 h7d hxd SC o13 h15
      go_wp2_with (first | (refine aN 33 (.tmp 15) rfl ?_;refine aG (arf) Tryz.underlying33 rfl bW rfl (.tmp 15) rfl rfl ?_) | (refine aO 33 (.tmp 7) (.tmp 119) rfl ?_;refine aF h76 (aW (M.next r s x.x) A1 c1) hcs0.symm (by rw [hcs0];exact bW) (dL _ _ _) rfl (.tmp 7) (.tmp 119) rfl rfl rfl ?_))
      go_roundw
      case rel=>exact ⟨k+1,some ⟨g1,0,none⟩,cap,Yv,c10,by omega,by go_num,by rw [HKP.out.1,List.length_append];rfl,by rw [HKP.out.2],HI6.out⟩
      case measure=>simp [intOf];omega
    · have e1:=hsn.2 Vb
      obtain ⟨n,hn⟩:∃ q,M.legal r s x.x=q:=⟨_,rfl⟩
      obtain ⟨s',hs'⟩:∃ q,ZQ r s x.x=q:=⟨_,rfl⟩
      rw [hn] at Vb
      simp only [hn] at hc2
      simp only [e1,hs'] at hc3
      have q0:(n != 0)=true:=by simpa using Vb
      have q1:(n == 0)=false:=by simpa using Vb
      have HC2:=hide hc2
      have HC3:=hide hc3
      have HLG:=hide hn
      have HN0:=hide Vb
      clear hc2 hc3 Vb hn hsn e1 hs'
      go_upto_region 14 with (first | (refine aN 25 (.tmp 5) rfl ?_;refine aG (h5w) Tryz.underlying25 rfl Zf rfl (.tmp 5) rfl rfl ?_) | (refine aN 25 (.tmp 5) rfl ?_;refine su (h5w) Tryz.underlying25 rfl Zf rfl (.tmp 5) rfl rfl ?_) | (refine vg 25 (.tmp 5) rfl ?_;refine sD (h5w) Tryz.underlying25 rfl Zf (.tmp 5) rfl rfl ?_) | (refine aN 33 (.tmp 7) rfl ?_;refine aG (h7) Tryz.underlying33 rfl bW rfl (.tmp 7) rfl rfl ?_) | (refine aN 33 (.tmp 7) rfl ?_;refine su (h7) Tryz.underlying33 rfl bW rfl (.tmp 7) rfl rfl ?_) | (refine vg 33 (.tmp 7) rfl ?_;refine sD (h7) Tryz.underlying33 rfl bW (.tmp 7) rfl rfl ?_) | (go_at_call 43;refine (HC1.out _ h7r).mono ?_;rintro e w2 ⟨rfl,hb2⟩;dsimp only))
      have hI2:=HI.out.below hb2
      have h2b:=h2w.below hb2
      have h7b:=h7.below hb2
      have ahp:=h7r.below hb2
      have hxb:=hx1.below hb2
      have hpb:=Reads.below aiW hb2
      clear h5w h2w h7 h7r hx1 aiW HI
      go_upto_region 15 with (first | (refine aN 23 (.tmp 2) rfl ?_;refine aG (h2b) Tryz.underlying23 rfl kV rfl (.tmp 2) rfl rfl ?_) | (refine aN 33 (.tmp 7) rfl ?_;refine aG (h7b) Tryz.underlying33 rfl bW rfl (.tmp 7) rfl rfl ?_) | (refine aN 66 (.tmp 12) rfl ?_;refine aG (hxb) Tryz.underlying66 rfl aV rfl (.tmp 12) rfl rfl ?_) | (go_at_call 49;refine (HC2.out _ ahp hpb).mono ?_;rintro e w3 ⟨rfl,hb3⟩;dsimp only))
      have hI3:=hI2.below hb3
      have h2c:=h2b.below hb3
      have h7c:=h7b.below hb3
      have akG:=ahp.below hb3
      have hxc:=hxb.below hb3
      have hpc:=Reads.below hpb hb3
      clear h2b h7b ahp hxb hpb hI2
      go_upto_region 16 with (first | (refine aN 23 (.tmp 2) rfl ?_;refine aG (h2c) Tryz.underlying23 rfl kV rfl (.tmp 2) rfl rfl ?_) | (refine aN 33 (.tmp 7) rfl ?_;refine aG (h7c) Tryz.underlying33 rfl bW rfl (.tmp 7) rfl rfl ?_) | (refine aN 66 (.tmp 12) rfl ?_;refine aG (hxc) Tryz.underlying66 rfl aV rfl (.tmp 12) rfl rfl ?_) | (go_at_call 44;refine (HC3.out _ akG hpc).mono ?_;rintro e w4 ⟨A1,c1,rfl,hr1,hb4⟩;have hbx2:=Held.new w4 aj 33;dsimp only) | (refine aO 33 (.tmp 15) (.tmp 78) rfl ?_;refine aF hbx2 (aW s' A1 c1) rfl bW (dL _ _ _) rfl (.tmp 15) (.tmp 78) rfl rfl rfl ?_))
      refine aiB (p:=fun W=>Code.wp _ _ _ _ W) (fun w5 hw5=>?_)
      have ahw:Below w4.heap.size w4 w5:=by rw [hw5];exact below_setCells _ (Nat.le_refl _) _ _ _ _ ((Below.refl _ _).alloc (Nat.le_refl _) _)
      have h15:Held w5 w4.heap.size (aW s' A1 c1) 33:=by rw [hw5];exact hbx2.whole _ rfl
      have ae4:=hb4.trans (ahw.mono hb4.size)
      have hI5:=hI3.below ae4
      have h7d:=h7c.below ae4
      have hxd:=hxc.below ae4
      have SC:=bD.below hr1 ahw
      have ar0:=hb4.size
      have arT:=hb3.size
      have arM:=hb2.size
      have hsI:=hI3.agn.size
      have H9:=hI3.lt7
      clear hw5 hbx2 h2c h7c akG hxc hpc hI3 ahw hr1 hb4 ae4 HC1 HC2 HC3
      have o13:=h7d.cell (j:=13) rfl
      go_cut [105] from 80 to 105 (fun v105 wx=>v105= .bool false∧wx=w5)
      case first=>
       rcases ho:s.over with _ | _
       · rw [ho] at o13
         go_wp2
         go_meet
         exact ⟨rfl,rfl⟩
       · rw [ho] at o13
         have hn1:n=1:=by rw [← HLG.out];exact M.adF ho
         subst hn1
         go_wp2
         go_meet
         exact ⟨rfl,rfl⟩
      case rest=>
       obtain ⟨rfl,rfl⟩:=hcut
       obtain ⟨i0,hi0,hz0,hz1,hz2⟩:=info_parts Dl
       have hoz:=hI5.ZX
       have hkl:=zY r l k
       have hs5:=h15.lt
       clear o13 SC h15 h7d
       go_wp2_with (first | (at_builtin;refine wpList_append_lies _ rfl _ _ _ rfl WL.heap.size 51 i0 (.agg #[.int .i64 0,.int .i64 0]) 2 16 Tryz.underlying34 hi0 hz0 hz1 hz2 rfl (by omega) _ _ _ rfl (hoz.alloc _) ⟨wc.heap.size,0,none⟩ 1 1 [.int .i64 ((k:Int)+1),.int .i64 n] rfl rfl (dK _ _ _ _ rfl) (by simp [Value.oneCell',au]) (by omega) (by simp only [maxLen];omega) (by omega) (by simp;omega) (wc.heap.size+1) (by simp) ?_))
       intro g1 cap w6 hown6 hgrow hat arx
       have hlk:¬ M.legal r (lQ r l k) l[k].x=0:=by rw [HS.out,HX.out,HLG.out];exact HN0.out
       have hlk2:M.legal r (lQ r l k) l[k].x=n:=by rw [HS.out,HX.out];exact HLG.out
       have hI6:=SpI.no hI5 hlt hlk hgrow (by rw [hlk2];exact hown6) hat
       have hkp:Zk r l (k+1)=Zk r l k:=by rw [Z8 r l k hlt,if_neg hlk,List.append_nil]
       have hrf:lK r l (k+1)=lK r l k++[⟨(k:Int)+1,n⟩]:=by rw [Ew r l k hlt,if_pos hlk,hlk2]
       have HKP:=hide (And.intro hkp hrf)
       have HI6:=hide hI6
       clear hkp hrf hI6 hgrow hown6 hat hlk hlk2 hoz hI5 hxd
       go_wp2
       go_roundw
       case rel=>exact ⟨k+1,A9,c9,some ⟨g1,0,none⟩,cap,by omega,by go_num,by rw [HKP.out.1],by rw [HKP.out.2,List.length_append];rfl,HI6.out⟩
       case measure=>simp [intOf];omega
  · have hke:k=l.length:=by omega
    subst hke
    have i9:¬ ((l.length:Int)<(l.length:Int)):=by omega
    have hfin:=apn hI HO.out.1 HO.out.2 Oi HL.out
    have HF:=hide hfin
    clear hlt hfin hI
    go_wp2
    refine Q9.out _ _ ?_
    apply HN.out
    exact HF.out
theorem aqp (W0:World) (r:M.Rules) (l:List Sh) (Al:Option Addr) (cl:Nat) (HG:Hid (Glob W0)) (HL:Hid (wG W0 (fun b=>b<W0.heap.size) Al cl l)) (HN:Hid (ajX W0 r l Al cl)):ajQ W0 r l Al cl:=by
 dsimp only [ajQ,SPQ]
 intros
 rename_i W hf
 dsimp only [ZM,dQ,Tryz.f12,Option.getD]
 have hE:=hf
 have hA:=hE.a
 obtain ⟨rfl,rfl,h2,hl,_,_,hbw⟩:=id hA
 have hcl:=Gj _ r l Al cl W hl
 have h0:wP r l=0:=by have hok:=hE.ok;unfold wP aU;rw [if_neg (by simp [hok.rules]),aU,if_neg (by simp [hok.log])];rfl
 rw [h0] at hcl
 have JF:=hide hcl
 clear hcl h0
 apply wp_seq_k
 intro K hK
 have HK:=hide hK
 clear hK
 go_wp2_with (first | (refine aN 23 (.tmp 2) rfl ?_;refine aG (h2) Tryz.underlying23 rfl kV rfl (.tmp 2) rfl rfl ?_) | (go_at_call 18;refine JF.out.mono ?_;rintro e w1 ⟨A1,c1,A2,c2,rfl,hr1,hr2,hb1⟩;have hbx:=Held.new w1 aj 33;dsimp only) | (refine aO 33 (.tmp 17) (.tmp 125) rfl ?_;refine aF hbx (aW (sW r l) A1 c1) rfl bW (dL _ _ _) rfl (.tmp 17) (.tmp 125) rfl rfl rfl ?_))
 obtain ⟨hq,hb2⟩:=acV.new hr1 hbx
 have hbb:=hb1.trans (hb2.mono hb1.size)
 refine HK.out _ _ ?_
 apply HN.out
 exact ⟨hE.below hbb,hq,⟨A2,c2,rfl,Reads.more (Reads.below hr2 hb2) (fun _ _ _=>trivial)⟩,rfl⟩
theorem aqx (W0:World) (r:M.Rules) (l:List Sh) (Al:Option Addr) (cl:Nat) (HG:Hid (Glob W0)) (HL:Hid (wG W0 (fun b=>b<W0.heap.size) Al cl l)) (HN:Hid (aj6 W0 r l Al cl)):ajX W0 r l Al cl:=by
 dsimp only [ajX,SPQ]
 intros
 rename_i W hf
 dsimp only [ZM,dQ,Tryz.f12,Option.getD]
 obtain ⟨hE,h17,h18,rfl⟩:=hf
 have hA:=hE.a
 obtain ⟨rfl,rfl,h2,hl,_,_,hbw⟩:=id hA
 obtain ⟨A9,c9,rfl,h9⟩:=hE.k
 have hk:=amO hE.ok
 have hcl:=Gj _ r _ A9 c9 W h9
 rw [hk.1,hk.2.1,hk.2.2] at hcl
 have JF:=hide hcl
 clear hcl hk
 apply wp_seq_k
 intro K hK
 have HK:=hide hK
 clear hK
 go_wp2_with (first | (refine aN 23 (.tmp 2) rfl ?_;refine aG (h2) Tryz.underlying23 rfl kV rfl (.tmp 2) rfl rfl ?_) | (go_at_call 18;refine JF.out.mono ?_;rintro e w1 ⟨A1,c1,A2,c2,rfl,hr1,hr2,hb1⟩;have hbx:=Held.new w1 aj 33;dsimp only) | (refine aO 33 (.tmp 20) (.tmp 132) rfl ?_;refine aF hbx (aW (sW r l) A1 c1) rfl bW (dL _ _ _) rfl (.tmp 20) (.tmp 132) rfl rfl rfl ?_))
 obtain ⟨hq,hb2⟩:=acV.new hr1 hbx
 have hbb:=hb1.trans (hb2.mono hb1.size)
 refine HK.out _ _ ?_
 apply HN.out
 exact ⟨hE.below hbb,⟨h17.below hbb,h18.below hbb,rfl⟩,hq,⟨A2,c2,rfl,Reads.more (Reads.below hr2 hb2) (fun _ _ _=>trivial)⟩,rfl⟩
theorem aqE (W0:World) (r:M.Rules) (l:List Sh) (Al:Option Addr) (cl:Nat) (HG:Hid (Glob W0)) (HL:Hid (wG W0 (fun b=>b<W0.heap.size) Al cl l)) (HN:Hid (ake W0 r l Al cl)):aj6 W0 r l Al cl:=by
 dsimp only [aj6,SPQ]
 intros
 rename_i W hf
 dsimp only [ZM,dQ,Tryz.f12,Option.getD]
 obtain ⟨hE,⟨h17,h18,rfl⟩,h20,⟨A21,c21,rfl,r21⟩,rfl⟩:=hf
 obtain ⟨VF,Yy,c17,rfl,g17,s17⟩:=h17
 obtain ⟨Q5,Yz,c20,rfl,g20,s20⟩:=h20
 obtain ⟨B7,A7,c7,rfl,g7,s7⟩:=hE.s
 have h10:=hE.f
 have arF:=h18
 have hq10:=h10
 have hbw:=hE.a.bw
 obtain ⟨A18,c18,rfl,r18⟩:=h18
 obtain ⟨Yv,c10,rfl,r10⟩:=h10
 have hsm:=fun A B c d w (h:bD w (fun _=>True) A c (sW r l).ay) (h':bD w (fun _=>True) B d (sW r l).ay)=>agf (fun _=>True) (fun _=>True) (sW r l) (sW r l) A B c d w h h'
 have heq:((sW r l).eq (sW r l))=true:=M.State.eq_iff.2 rfl
 simp only [heq] at hsm
 have HSM:=hide hsm
 have q2:(((xH r l).length:Int) != ((xH r l).length:Int))=false:=by simp
 clear hsm heq hE
 apply wp_seq_k
 intro K hK
 have HK:=hide hK
 clear hK
 apply wp_seq_k
 intro K2 hK2
 have PD:=hide hK2
 clear hK2
 go_wp2_with (first | (refine aN 33 (.tmp 17) rfl ?_;refine aG (g17) Tryz.underlying33 rfl bW rfl (.tmp 17) rfl rfl ?_) | (refine aN 33 (.tmp 17) rfl ?_;refine su (g17) Tryz.underlying33 rfl bW rfl (.tmp 17) rfl rfl ?_) | (refine vg 33 (.tmp 17) rfl ?_;refine sD (g17) Tryz.underlying33 rfl bW (.tmp 17) rfl rfl ?_) | (refine aN 33 (.tmp 7) rfl ?_;refine aG (g7) Tryz.underlying33 rfl bW rfl (.tmp 7) rfl rfl ?_) | (refine aN 33 (.tmp 7) rfl ?_;refine su (g7) Tryz.underlying33 rfl bW rfl (.tmp 7) rfl rfl ?_) | (refine vg 33 (.tmp 7) rfl ?_;refine sD (g7) Tryz.underlying33 rfl bW (.tmp 7) rfl rfl ?_) | (go_at_call 23;refine (HSM.out _ _ _ _ _ s17 s7).mono ?_;rintro e w1 ⟨rfl,hb1⟩;have aoU:=g20.below hb1;have g7a:=g7.below hb1;have asg:=s20.below hb1;have s7a:=s7.below hb1;clear s17;dsimp only) | (refine aN 33 (.tmp 20) rfl ?_;refine aG (aoU) Tryz.underlying33 rfl bW rfl (.tmp 20) rfl rfl ?_) | (refine aN 33 (.tmp 20) rfl ?_;refine su (aoU) Tryz.underlying33 rfl bW rfl (.tmp 20) rfl rfl ?_) | (refine vg 33 (.tmp 20) rfl ?_;refine sD (aoU) Tryz.underlying33 rfl bW (.tmp 20) rfl rfl ?_) | (refine aN 33 (.tmp 7) rfl ?_;refine aG (g7a) Tryz.underlying33 rfl bW rfl (.tmp 7) rfl rfl ?_) | (refine aN 33 (.tmp 7) rfl ?_;refine su (g7a) Tryz.underlying33 rfl bW rfl (.tmp 7) rfl rfl ?_) | (refine vg 33 (.tmp 7) rfl ?_;refine sD (g7a) Tryz.underlying33 rfl bW (.tmp 7) rfl rfl ?_) | (go_at_call 23;refine (HSM.out _ _ _ _ _ asg s7a).mono ?_;rintro e w2 ⟨rfl,hb2⟩;dsimp only))
 refine PD.out _ _ ?_
 go_wp2
 refine HK.out _ _ ?_
 apply HN.out
 have hbb:=hb1.trans (hb2.mono hb1.size)
 exact ⟨arF.below hbb,hq10.below hbb,VY hbw hbb⟩
theorem aqL (W0:World) (r:M.Rules) (l:List Sh) (Al:Option Addr) (cl:Nat) (HG:Hid (Glob W0)) (HL:Hid (wG W0 (fun b=>b<W0.heap.size) Al cl l)) (HN:Hid (akl W0 r l Al cl)):ake W0 r l Al cl:=by
 dsimp only [ake,SPQ]
 intros
 rename_i W hf
 dsimp only [ZM,dQ,Tryz.f12,Option.getD]
 obtain ⟨h7,h10,hbw⟩:=hf
 obtain ⟨A7,c7,rfl,r7⟩:=h7
 obtain ⟨Yv,c10,rfl,r10⟩:=h10
 obtain ⟨ls,hls⟩:∃ q,(xH r l)=q:=⟨_,rfl⟩
 rw [hls] at r7 r10
 rw [hls]
 have hbl:=(Reads.bd r7).2.2
 clear hls
 apply wp_seq_k
 intro K1 hK1
 have Q9:=hide hK1
 clear hK1
 apply wp_seq_k
 intro K2 hK2
 have PD:=hide hK2
 clear hK2
 go_wp2
 refine PD.out _ _ ?_
 go_wp2
 go_loopw [167] (fun i wr=>∃ k:Nat,k≤ls.length∧i= .int .i64 k∧∃ n,wr=W.drewN n) (fun i _=>ls.length - (intOf i).toNat)
 case atStart=>exact ⟨0,Nat.zero_le _,rfl,0,rfl⟩
 case round=>
  obtain ⟨k,hk,rfl,nd,rfl⟩:=hrel
  by_cases hlt:k<ls.length
  · obtain ⟨b,o,rfl,_,P9,hcs⟩:=Reads.at_ r7 (by omega)
    obtain ⟨b',o',rfl,_,XM,hcs'⟩:=Reads.at_ r10 (by omega)
    have h00:=abv agQ hcs k hlt
    have h01:=abv agQ hcs' k hlt
    obtain ⟨a,ha⟩:∃ a,ls[k]=a:=⟨_,rfl⟩
    rw [ha] at h00 h01
    clear ha hcs hcs'
    obtain ⟨p1,p2⟩:=a
    have c0:W.cell? ⟨b,o+k*2,none⟩=some (.int .i64 p1):=h00 0 _ rfl
    have d0:W.cell? ⟨b',o'+k*2,none⟩=some (.int .i64 p1):=h01 0 _ rfl
    have c1:W.cell? ⟨b,o+k*2+1,none⟩=some (.int .i64 p2):=h00 1 _ rfl
    have d1:W.cell? ⟨b',o'+k*2+1,none⟩=some (.int .i64 p2):=h01 1 _ rfl
    have q0:(p1 == p1)=true:=beq_self_eq_true _
    have qn0:(p1 != p1)=false:=by simp
    have q1:(p2 == p2)=true:=beq_self_eq_true _
    have qn1:(p2 != p2)=false:=by simp
    have i1:(0:Int)≤(k:Int):=by omega
    have i2:(k:Int)<(ls.length:Int):=by omega
    clear h00 h01 r7 r10
    go_wp2
    go_quiet (fail)
    go_wp2
    go_roundw
    case rel=>exact ⟨k+1,by omega,by go_num,_,rfl⟩
    case measure=>simp [intOf];omega
  · have i9:¬ ((k:Int)<(ls.length:Int)):=by omega
    clear hlt
    go_wp2
    refine Q9.out _ _ ?_
    apply HN.out
    exact below_drewN hbw nd
theorem aqS (W0:World) (r:M.Rules) (l:List Sh) (Al:Option Addr) (cl:Nat) (HG:Hid (Glob W0)) (HL:Hid (wG W0 (fun b=>b<W0.heap.size) Al cl l)):akl W0 r l Al cl:=by
 dsimp only [akl,SPQ]
 intros
 rename_i W hf
 dsimp only [ZM,dQ,Tryz.f12,Option.getD]
 have hbw:=hf
 have HG9:=hide (HG.out.below hbw)
 apply wp_seq_k
 intro K hK
 have HK:=hide hK
 clear hK
 go_wp2_with (first | (go_at_call 17;refine (QJ _ HG9.out).mono ?_;rintro e w9 ⟨rfl,U6⟩;dsimp only))
 refine HK.out _ _ ?_
 go_wp2
 go_ret
 exact ⟨rfl,VY hbw U6⟩
theorem ajJ (W0:World) (hg:Glob W0) (r:M.Rules) (l:List Sh) (Al:Option Addr) (cl:Nat) (hl:wG W0 (fun _=>True) Al cl l) (hpl:∀ e∈l,e.x.aA.length*16≤140737488355328) (hll:l.length*80≤140737488355328):
 Calls Tryz.prog 12 #[jM r,.slice Al l.length cl] W0 fun e w'=>e= .returned (.bool true)∧Below W0.heap.size W0 w':=by
 have HG:=hide hg
 have HL:=hide (hl.more (S':=fun b=>b<W0.heap.size) (fun b hb _=>hb))
 have hall:=asq W0 r l Al cl HG HL (hide (asz W0 r l Al cl HG HL (hide (asG W0 r l Al cl HG HL (hide (asN W0 r l Al cl HG HL (hide (aqp W0 r l Al cl HG HL (hide (aqx W0 r l Al cl HG HL (hide (aqE W0 r l Al cl HG HL (hide (aqL W0 r l Al cl HG HL (hide (aqS W0 r l Al cl HG HL))))))))))))))))
 have aq6:=hide hall
 clear hall
 go_enter Tryz.func12,Tryz.ntmps12
 apply wp_seq_k
 intro K hK
 have HK:=hide hK
 clear hK
 have hB:=(bU.nil W0).new (by simp) ([.string r.game,.int .i64 r.target,.int .i64 r.aY]) 23
 go_wp2
 refine HK.out _ _ ?_
 have HA:=aq6.out
 apply HA
 exact ⟨rfl,rfl,hB.bf rfl,hl.below hB.bw,hpl,hll,hB.bw⟩
end Go.Proofs.YtelpepbpdojikaaGreatDoor
