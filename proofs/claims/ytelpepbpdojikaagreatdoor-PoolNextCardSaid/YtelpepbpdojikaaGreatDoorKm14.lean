/- Parts of the proofs about chapter 5 (pool), joined by program. -/
import Derived.Test.YtelpepbpdojikaaGreatDoorKg31
import Derived.Test.YtelpepbpdojikaaGreatDoorKm10
import Derived.Test.YtelpepbpdojikaaGreatDoorKm12
import Derived.Test.YtelpepbpdojikaaGreatDoorKm15
import Derived.Test.YtelpepbpdojikaaGreatDoorKm2
set_option maxHeartbeats 8000000
set_option maxRecDepth 100000
set_option linter.unusedVariables false
set_option linter.unusedSimpArgs false
namespace Go.Proofs.YtelpepbpdojikaaGreatDoor
open Go.RowKit
structure aAg (W0:World) (r:M.Rules) (l:List Sh) (Al:Option Addr) (cl:Nat) (v1 v2:Value) (W:World):Prop where
 e1:v1= .slice Al l.length cl
 e2:v2=ptr W0.heap.size
 h2:Held W W0.heap.size [.string r.game,.int .i64 r.target,.int .i64 r.aY] 23
 rl:wG W (fun _=>True) Al cl l
 pl:∀ e∈l,e.x.aA.length*16≤140737488355328
 ll:l.length*80≤140737488355328
 bw:Below W0.heap.size W0 W
theorem aAg.below {W0 W W':World} {r:M.Rules} {l:List Sh} {Al:Option Addr} {cl:Nat} {v1 v2:Value} (h:aAg W0 r l Al cl v1 v2 W) (hb:Below W.heap.size W W'):aAg W0 r l Al cl v1 v2 W':=
 ⟨h.e1,h.e2,h.h2.below hb,h.rl.below hb,h.pl,h.ll,VY h.bw hb⟩
def aBK (W0:World) (r:M.Rules) (l:List Sh) (Al:Option Addr) (cl:Nat) (v1 v2 v5 v6:Value) (W:World):Prop:=
 aAg W0 r l Al cl v1 v2 W∧∃ B5 A6 c6 l',v5=ptr B5∧Held W B5 [.string r.game,.int .i64 r.target,.int .i64 r.aY] 25∧v6= .slice A6 l'.length c6∧plain l'=plain l∧wG W (fun _=>True) A6 c6 l'
theorem aBK.below {W0 W W':World} {r:M.Rules} {l:List Sh} {Al:Option Addr} {cl:Nat} {v1 v2 v5 v6:Value} (h:aBK W0 r l Al cl v1 v2 v5 v6 W) (hb:Below W.heap.size W W'):aBK W0 r l Al cl v1 v2 v5 v6 W':=by
 obtain ⟨h1,B5,A6,c6,l',e5,h5,e6,hp,h6⟩:=h
 exact ⟨h1.below hb,B5,A6,c6,l',e5,h5.below hb,e6,hp,h6.below hb⟩
def ah5 (s:M.State) (t:TypeId) (v:Value) (W:World):Prop:=∃ B A c,v=ptr B∧Held W B (aW s A c) t∧bD W (fun _=>True) A c s.ay
theorem ah5.below {s:M.State} {t:TypeId} {v:Value} {W W':World} (h:ah5 s t v W) (hb:Below W.heap.size W W'):ah5 s t v W':=by
 obtain ⟨B,A,c,h1,h2,h3⟩:=h
 exact ⟨B,A,c,h1,h2.below hb,h3.below hb⟩
theorem ah5.new {s:M.State} {t:TypeId} {A:Option Addr} {c:Nat} {S:Nat→Prop} {w1:World} (hr:bD w1 S A c s.ay) (hbx:Held (w1.alloc (.cells aj.toArray t)) w1.heap.size aj t):
 ah5 s t (ptr w1.heap.size) ((w1.alloc (.cells aj.toArray t)).setCells w1.heap.size 0 (aW s A c))∧Below w1.heap.size w1 ((w1.alloc (.cells aj.toArray t)).setCells w1.heap.size 0 (aW s A c)):=by
 have hb:Below w1.heap.size w1 ((w1.alloc (.cells aj.toArray t)).setCells w1.heap.size 0 (aW s A c)):=below_setCells _ (Nat.le_refl _) _ _ _ _ ((Below.refl _ _).alloc (Nat.le_refl _) _)
 exact ⟨⟨w1.heap.size,A,c,rfl,hbx.whole _ rfl,bD.more (hr.below hb) (fun _ _ _=>trivial)⟩,hb⟩
structure StA (W0:World) (r:M.Rules) (s:M.State) (x:Sh) (As:Option Addr) (cs:Nat) (v3 v4 v5:Value) (W:World):Prop where
 e3:v3=ptr W0.heap.size
 e4:v4=ptr (W0.heap.size+1)
 e5:v5=ptr (W0.heap.size+2)
 h3:Held W W0.heap.size [.string r.game,.int .i64 r.target,.int .i64 r.aY] 23
 h4:Held W (W0.heap.size+1) (aW s As cs) 33
 h5:Held W (W0.heap.size+2) (au x) 66
 rs:bD W (fun _=>True) As cs s.ay
 rx:jl W (fun _=>True) x.a x.c x.x.aA
 fit:x.x.aA.length*16≤140737488355328
 bw:Below W0.heap.size W0 W
theorem StA.below {W0 W W':World} {r:M.Rules} {s:M.State} {x:Sh} {As:Option Addr} {cs:Nat} {v3 v4 v5:Value} (h:StA W0 r s x As cs v3 v4 v5 W) (hb:Below W.heap.size W W'):StA W0 r s x As cs v3 v4 v5 W':=
 ⟨h.e3,h.e4,h.e5,h.h3.below hb,h.h4.below hb,h.h5.below hb,h.rs.below hb,Reads.below h.rx hb,h.fit,VY h.bw hb⟩
def StB (W0:World) (r:M.Rules) (s:M.State) (x:Sh) (As:Option Addr) (cs:Nat) (v3 v4 v5 v7 v8 v9:Value) (W:World):Prop:=
 StA W0 r s x As cs v3 v4 v5 W∧∃ B7 B8 B9 A9 c9,v7=ptr B7∧Held W B7 [.string r.game,.int .i64 r.target,.int .i64 r.aY] 25∧v8=ptr B8∧Held W B8 (aW s As cs) 42∧v9=ptr B9∧Held W B9 (au ⟨x.x,A9,c9⟩) 69∧jl W (fun _=>True) A9 c9 x.x.aA
theorem StB.below {W0 W W':World} {r:M.Rules} {s:M.State} {x:Sh} {As:Option Addr} {cs:Nat} {v3 v4 v5 v7 v8 v9:Value} (h:StB W0 r s x As cs v3 v4 v5 v7 v8 v9 W) (hb:Below W.heap.size W W'):StB W0 r s x As cs v3 v4 v5 v7 v8 v9 W':=by
 obtain ⟨h1,B7,B8,B9,A9,c9,e7,h7,e8,h8,e9,h9,hp⟩:=h
 exact ⟨h1.below hb,B7,B8,B9,A9,c9,e7,h7.below hb,e8,h8.below hb,e9,h9.below hb,Reads.below hp hb⟩
theorem Zp:(Tryz.prog.info? 25).map (·.size)=some 3:=by kernel_rfl
theorem Zj:(Tryz.prog.info? 69).map (·.size)=some 7:=by kernel_rfl
theorem ZR (S:Nat→Prop) (r:M.Rules) (s:M.State) (A:Option Addr) (c:Nat) (w:World) (hp:bD w S A c s.ay):
 Calls Tryz.prog 43 #[jM r,wF s A c] w fun e w'=>e= .returned (.int .i64 (M.jf r s))∧Below w.heap.size w w':=by
 by_cases h:M.dw r s=0
 · obtain ⟨g,tg,fo⟩:=r
   have ho:=Om h
   by_cases hg:s.group=0
   · exact ad1 S g tg fo s A c w hp ho (by simpa using hg)
   · have he:g=M.aQ:=ho.game.resolve_left hg
     subst he
     exact acr S tg fo s A c w hp ho (by simpa using hg)
 · have:=ahK r s A c w hp.bd.2.2 h
   have hck:M.jf r s=M.dw r s:=by unfold M.jf;rw [if_pos h]
   rw [hck]
   exact this
theorem jl.aFW {w6 X:World} {S:Nat→Prop} {A:Option Addr} {c g7 g8 g9 o7 o8 o9:Nat} {l:List M.rD} {v7 v8 v9:List Value} (h:jl w6 S A c l) (hb:Below w6.heap.size w6 X) (hg:∀ b,b<w6.heap.size→S b→b≠g7∧b≠g8∧b≠g9):jl (((X.setCells g7 o7 v7).setCells g8 o8 v8).setCells g9 o9 v9) S A c l:=
 Reads.keep h (by rw [setCells_size,setCells_size,setCells_size];exact hb.size) fun b i hs hl=>(kN _ _ _ _ (hg b hl hs).2.2).trans ((kN _ _ _ _ (hg b hl hs).2.1).trans ((kN _ _ _ _ (hg b hl hs).1).trans (hb.cell (p:=⟨b,i,none⟩) hl)))
noncomputable def acV (n:Nat):Code:=dQ n ((Tryz.f9).body.getD .skip)
@[reducible] def PNQ (W0:World) (r:M.Rules) (s:M.State) (x:Sh) (As:Option Addr) (cs:Nat) (F:Value→Value→Value→Value→Value→Value→Value→Value→Value→Value→World→Prop) (n:Nat):Prop:=∀ (z0 z1 z2 z3 z4 z5 z6 z7 z8 z9 z10 z11 z12 z13 kD kK kF z17 kL jQ z20 z21 z22 z23 z24 z25 z26 z27 z28 z29 z30 z31 z32 z33 z34 z35 z36 z37 z38 z39 z40 z41 z42 z43 z44 z45 z46 z47 z48 z49 z50 z51 z52 z53 z54 z55 z56 z57 z58 z59 z60 z61 z62 z63 z64 z65 z66 z67 z68 z69 z70 z71 z72 z73 z74 z75 z76 z77:Value) (W:World),F z3 z4 z5 z7 z8 z9 z10 z11 z12 z13 W→(acV n).wp Tryz.prog (bodyPost Tryz.prog Tryz.f9 (fun e w'=>e= .returned (.bool true)∧Below W0.heap.size W0 w')) {tmps:= #[z0,z1,z2,z3,z4,z5,z6,z7,z8,z9,z10,z11,z12,z13,kD,kK,kF,z17,kL,jQ,z20,z21,z22,z23,z24,z25,z26,z27,z28,z29,z30,z31,z32,z33,z34,z35,z36,z37,z38,z39,z40,z41,z42,z43,z44,z45,z46,z47,z48,z49,z50,z51,z52,z53,z54,z55,z56,z57,z58,z59,z60,z61,z62,z63,z64,z65,z66,z67,z68,z69,z70,z71,z72,z73,z74,z75,z76,z77],defers:=[] } W
def acH (r:M.Rules) (s:M.State) (x:M.aI):Int:=if aU [M.jf r s,M.cZ x]≠0 then aU [M.jf r s,M.cZ x] else if M.legal r s x≠0 then 18 else 0
theorem axM {r:M.Rules} {s:M.State} {x:M.aI} (h:acH r s x≠0):ZN r s x=acH r s x∧ZO r s x=M.zero:=by
 have h1:ZN r s x=acH r s x:=by
  unfold acH ZN at*
  by_cases q:aU [M.jf r s,M.cZ x]≠0
  · rw [if_pos q,if_pos q]
  · rw [if_neg q] at h ⊢
    rw [if_neg q]
    by_cases q2:M.legal r s x≠0
    · rw [if_pos q2,if_pos q2]
    · rw [if_neg q2] at h;exact absurd rfl h
 exact ⟨h1,if_neg (by rw [h1];exact h)⟩
theorem aAI {r:M.Rules} {s:M.State} {x:M.aI} (h:acH r s x=0):abf r s x∧ZN r s x=M.iP r (M.next r s x)∧M.jf r (M.next r s x)=M.iP r (M.next r s x):=by
 unfold acH at h
 by_cases q:aU [M.jf r s,M.cZ x]≠0
 · rw [if_pos q] at h;exact absurd h q
 rw [if_neg q] at h
 by_cases q2:M.legal r s x≠0
 · rw [if_pos q2] at h;cases h
 have q':aU [M.jf r s,M.cZ x]=0:=Classical.not_not.1 q
 have q2':M.legal r s x=0:=Classical.not_not.1 q2
 obtain ⟨h1,h2⟩:=aeJ q'
 obtain ⟨hr,hk⟩:=M.ae4 h1
 have hl:=M.lawful q2'
 refine ⟨⟨h2,hr,hk.more (by omega),hl⟩,?_,M.ak8 hr (M.OB hr hk (M.uw h2) hl (by omega))⟩
 unfold ZN
 rw [if_neg q,if_neg q2]
@[reducible] def aEs (W0:World) (r:M.Rules) (s:M.State) (x:Sh) (As:Option Addr) (cs:Nat):Prop:=PNQ W0 r s x As cs (fun z3 z4 z5 _ _ _ _ _ _ _ W=>StA W0 r s x As cs z3 z4 z5 W) 1
@[reducible] def aBY (W0:World) (r:M.Rules) (s:M.State) (x:Sh) (As:Option Addr) (cs:Nat):Prop:=PNQ W0 r s x As cs (fun z3 z4 z5 z7 z8 z9 _ _ _ _ W=>StB W0 r s x As cs z3 z4 z5 z7 z8 z9 W) 2
@[reducible] def aB5 (W0:World) (r:M.Rules) (s:M.State) (x:Sh) (As:Option Addr) (cs:Nat):Prop:=PNQ W0 r s x As cs (fun z3 z4 z5 z7 z8 z9 _ _ _ _ W=>StB W0 r s x As cs z3 z4 z5 z7 z8 z9 W) 3
@[reducible] def aCc (W0:World) (r:M.Rules) (s:M.State) (x:Sh) (As:Option Addr) (cs:Nat):Prop:=PNQ W0 r s x As cs (fun z3 z4 z5 z7 z8 z9 z10 z11 _ _ W=>StB W0 r s x As cs z3 z4 z5 z7 z8 z9 W∧ah5 (ZO r s x.x) 33 z10 W∧z11= .int .i64 (ZN r s x.x)) 4
@[reducible] def aCj (W0:World) (r:M.Rules) (s:M.State) (x:Sh) (As:Option Addr) (cs:Nat):Prop:=PNQ W0 r s x As cs (fun z3 z4 z5 z7 z8 z9 z10 z11 z12 _ W=>StB W0 r s x As cs z3 z4 z5 z7 z8 z9 W∧(ah5 (ZO r s x.x) 33 z10 W∧z11= .int .i64 (ZN r s x.x))∧z12= .int .i64 (aU [M.jf r s,M.cZ x.x])) 5
@[reducible] def awC (W0:World) (r:M.Rules) (s:M.State) (x:Sh) (As:Option Addr) (cs:Nat):Prop:=PNQ W0 r s x As cs (fun _ _ _ _ _ _ z10 z11 z12 z13 W=>(ah5 (ZO r s x.x) 33 z10 W∧z11= .int .i64 (ZN r s x.x))∧z12= .int .i64 (ZN r s x.x)∧ah5 (ZO r s x.x) 42 z13 W∧Below W0.heap.size W0 W) 8
theorem aHK (W0:World) (r:M.Rules) (s:M.State) (x:Sh) (As:Option Addr) (cs:Nat) (HG:Hid (Glob W0)) (HN:Hid (aBY W0 r s x As cs)):aEs W0 r s x As cs:=by
 dsimp only [aEs,PNQ]
 intro z0 z1 z2 _ _ _ z6 _ _ _ z10 z11 z12 z13 _ _ _ _ kL jQ z20 z21 z22 z23 z24 z25 z26 z27 z28 z29 z30 z31 z32 z33 z34 z35 z36 z37 z38 z39 z40 z41 z42 z43 z44 z45 z46 z47 z48 z49 z50 z51 z52 z53 z54 z55 z56 z57 z58 z59 z60 z61 z62 z63 z64 z65 z66 z67 z68 z69 z70 z71 z72 z73 z74 z75 z76 z77 W hf
 dsimp only [acV,dQ,Tryz.f9,Option.getD]
 have hF:=hf
 obtain ⟨rfl,rfl,rfl,h3,h4,h5,_,_,_,_⟩:=hf
 have hr3:∀ W',(fun w':World=>Below W.heap.size W w') W'→W'.rangeAt W0.heap.size 0 ([.string r.game,.int .i64 r.target,.int .i64 r.aY]):=fun W' h=>(h3.below h).range
 have hr4:∀ W',(fun w':World=>Below W.heap.size W w') W'→W'.rangeAt (W0.heap.size+1) 0 (aW s As cs):=fun W' h=>(h4.below h).range
 have SC:∀ W',(fun w':World=>Below W.heap.size W w') W'→W'.rangeAt (W0.heap.size+2) 0 (au x):=fun W' h=>(h5.below h).range
 apply wp_seq_k
 intro K hK
 have HK:=hide hK
 clear hK
 refine wp_region_held_drew (S:=(fun w':World=>Below W.heap.size W w')) (by kernel_rfl) ?eP (fun hHeld=>?_)
 case eP=>exact (Below.refl _ _).drew
 refine anp (fun f hf=>?_)
 have J:∀ (p7 p8 p9:Nat) (A6:Option Addr) (c6:Nat) (wx:World),Held wx p7 [.string ⟨#[]⟩,.int .i64 0,.int .i64 0] 25→Held wx p8 aj 42→Held wx p9 JB 69→p7≠p8→p7≠p9→p8≠p9→W.heap.size≤p7→W.heap.size≤p8→W.heap.size≤p9→(fun w':World=>Below W.heap.size W w') wx→
  jl wx (fun b=>b≠p7∧b≠p8∧b≠p9) A6 c6 x.x.aA→f 3 #[true,true,true,true,true,true,true,false,false,false] {tmps:= #[z0,z1,z2,ptr W0.heap.size,ptr (W0.heap.size+1),ptr (W0.heap.size+2),z6,ptr p7,ptr p8,ptr p9,z10,z11,z12,z13,.agg ([.string r.game,.int .i64 r.target,.int .i64 r.aY]:List Value).toArray,.agg (aW s As cs).toArray,.agg (au x).toArray,iO x.x A6 c6,kL,jQ,z20,z21,z22,z23,z24,z25,z26,z27,z28,z29,z30,z31,z32,z33,z34,z35,z36,z37,z38,z39,z40,z41,z42,z43,z44,z45,z46,z47,z48,z49,z50,z51,z52,z53,z54,z55,z56,z57,z58,z59,z60,z61,z62,z63,z64,z65,z66,z67,z68,z69,z70,z71,z72,z73,z74,z75,z76,z77],defers:=[] } wx:=by
  intro p7 p8 p9 A6 c6 wx g7 g8 g9 n78 n79 n89 l7 l8 l9 hHeld kP
  subst hf
  have hHeld:(fun w':World=>Below W.heap.size W w') (wx.setCells p7 0 [.string r.game,.int .i64 r.target,.int .i64 r.aY]):=below_setCells _ l7 _ _ _ _ hHeld
  refine wpAnyH_ready (rs:=[7]) (by kernel_rfl) (by simp) ?_
  refine aa6 (o:=_) (ga rfl) (by kernel_rfl) g7 [.string r.game,.int .i64 r.target,.int .i64 r.aY] rfl Zp (xI _ _ _) (.tmp 7) (.tmp 14) rfl rfl rfl hHeld ?_
  try simp only [Act.put,la,lz,ls]
  have hHeld:(fun w':World=>Below W.heap.size W w') ((wx.setCells p7 0 [.string r.game,.int .i64 r.target,.int .i64 r.aY]).setCells p8 0 (aW s As cs)):=below_setCells _ l8 _ _ _ _ hHeld
  refine wpAnyH_ready (rs:=[8]) (by kernel_rfl) (by simp) ?_
  refine aa6 (o:=_) (ga rfl) (by kernel_rfl) (Held.others n78.symm _ _ _ g8) (aW s As cs) rfl Zh (dL _ _ _) (.tmp 8) (.tmp 15) rfl rfl rfl hHeld ?_
  try simp only [Act.put,la,lz,ls]
  have hHeld:(fun w':World=>Below W.heap.size W w') (((wx.setCells p7 0 [.string r.game,.int .i64 r.target,.int .i64 r.aY]).setCells p8 0 (aW s As cs)).setCells p9 0 (au ⟨x.x,A6,c6⟩)):=below_setCells _ l9 _ _ _ _ hHeld
  refine wpAnyH_ready (rs:=[9]) (by kernel_rfl) (by simp) ?_
  refine aa6 (o:=_) (ga rfl) (by kernel_rfl) (Held.others n89.symm _ _ _ (Held.others n79.symm _ _ _ g9)) (au ⟨x.x,A6,c6⟩) rfl Zj (uq x.x A6 c6) (.tmp 9) (.tmp 17) rfl rfl rfl hHeld ?_
  try simp only [Act.put,la,lz,ls]
  refine wpAnyH_done (by kernel_rfl) ?_ _
  refine HK.out _ _ ?_
  apply HN.out
  have h3b:=aln (v7:=[.string r.game,.int .i64 r.target,.int .i64 r.aY]) (v8:=aW s As cs) (v9:=au ⟨x.x,A6,c6⟩) g7 g8 g9 n78 n79 n89 rfl rfl rfl
  refine ⟨hF.below hHeld,_,_,_,A6,c6,rfl,h3b.1,rfl,h3b.2.1,rfl,h3b.2.2,?_⟩
  exact Reads.more (jl.aFW kP (Below.refl _ _) (fun b _ h=>h)) (fun _ _ _=>trivial)
 rw [hf] at J
 subst hf
 refine wpAnyH_take (i:=0) (oi:=_) (v:=_) (ga rfl) (by kernel_rfl) (by kernel_rfl) (by kernel_rfl) (fun _ _ _ h=>h) (yieldsIf_load_mid (by rfl) _ _ (by rfl) _ _ (by rfl) _ _ hr3 Tryz.underlying23 rfl (by kernel_rfl)) (by assumption) ?_
 try simp only [Act.put,la,lz,ls]
 refine wpAnyH_take (i:=1) (oi:=_) (v:=_) (ga rfl) (by kernel_rfl) (by kernel_rfl) (by kernel_rfl) (fun _ _ _ h=>h) (yieldsIf_load_mid (by rfl) _ _ (by rfl) _ _ (by rfl) _ _ hr4 Tryz.underlying33 rfl (by kernel_rfl)) (by assumption) ?_
 try simp only [Act.put,la,lz,ls]
 refine wpAnyH_take (i:=2) (oi:=_) (v:=_) (ga rfl) (by kernel_rfl) (by kernel_rfl) (by kernel_rfl) (fun _ _ _ h=>h) (yieldsIf_load_mid (by rfl) _ _ (by rfl) _ _ (by rfl) _ _ SC Tryz.underlying66 rfl (by kernel_rfl)) (by assumption) ?_
 try simp only [Act.put,la,lz,ls]
 refine wpAnyH_ready (rs:=[3,4,5,6]) (by kernel_rfl) (by simp) ?_
 refine AllReadyH.cons (o:=_) (ga rfl) (fun K hK=>?_) (AllReadyH.cons (o:=_) (ga rfl) (fun K hK=>?_) (AllReadyH.cons (o:=_) (ga rfl) (fun K hK=>?_) (AllReadyH.cons (o:=_) (ga rfl) (fun K hK=>?_) AllReadyH.nil)))
 · go_simp
   (go_at_call 26;refine (Zm (fun _=>True) x.x x.a x.c _ (Reads.below hF.rx hHeld) hF.fit).mono ?_;rintro e w6 ⟨A6,c6,rfl,kP,hb6⟩;have iR:W.heap.size≤w6.heap.size:=Nat.le_trans hHeld.size hb6.size)
   refine hK.out _ _ ?axT (fun hHeld=>?_)
   case axT=>(exact hHeld.trans (hb6.mono hHeld.size))
   clear hK K
   try simp only [Act.put,la,lz,ls]
   refine wpAnyH_ready (rs:=[4,5,6]) (by kernel_rfl) (by simp) ?_
   refine AllReadyH.cons (o:=_) (ga rfl) (fun K hK=>?_) (AllReadyH.cons (o:=_) (ga rfl) (fun K hK=>?_) (AllReadyH.cons (o:=_) (ga rfl) (fun K hK=>?_) AllReadyH.nil))
   · go_simp
     refine hK.out _ _ ?ax0 (fun hHeld=>?_)
     case ax0=>(exact Below.alloc hHeld hHeld.size _)
     clear hK K
     try simp only [Act.put,la,lz,ls]
     refine wpAnyH_ready (rs:=[5,6]) (by kernel_rfl) (by simp) ?_
     refine AllReadyH.cons (o:=_) (ga rfl) (fun K hK=>?_) (AllReadyH.cons (o:=_) (ga rfl) (fun K hK=>?_) AllReadyH.nil)
     · go_simp
       refine hK.out _ _ ?ayl (fun hHeld=>?_)
       case ayl=>(exact Below.alloc hHeld hHeld.size _)
       clear hK K
       try simp only [Act.put,la,lz,ls]
       refine tr 6 fun K hK=>?_
       go_simp
       refine hK.out _ _ ?ayG (fun hHeld=>?_)
       case ayG=>(exact Below.alloc hHeld hHeld.size _)
       clear hK K
       try simp only [Act.put,la,lz,ls]
       have hq:W.heap.size+0≤w6.heap.size:=by have h:=hb6.size;simpa using h
       exact J _ _ _ A6 c6 _ ((((Held.newAt _ [.string ⟨#[]⟩,.int .i64 0,.int .i64 0] 25 (by first | rfl | simp))).alloc _).alloc _) (((Held.newAt _ aj 42 (by first | rfl | simp))).alloc _) ((Held.newAt _ JB 69 (by first | rfl | simp))) (by (try simp);(try omega)) (by (try simp);(try omega)) (by (try simp);(try omega)) (by (try simp);(try omega)) (by (try simp);(try omega)) (by (try simp);(try omega)) hHeld (Reads.below (Reads.more kP (fun b hl h=>by (try simp at h);refine ⟨?_,?_,?_⟩ <;> (intro e;omega))) ((((Below.refl _ _).alloc (by (try simp);(try omega)) _).alloc (by (try simp);(try omega)) _).alloc (by (try simp);(try omega)) _))
     · go_simp
       refine hK.out _ _ ?ayN (fun hHeld=>?_)
       case ayN=>(exact Below.alloc hHeld hHeld.size _)
       clear hK K
       try simp only [Act.put,la,lz,ls]
       refine tr 5 fun K hK=>?_
       go_simp
       refine hK.out _ _ ?ays (fun hHeld=>?_)
       case ays=>(exact Below.alloc hHeld hHeld.size _)
       clear hK K
       try simp only [Act.put,la,lz,ls]
       have hq:W.heap.size+0≤w6.heap.size:=by have h:=hb6.size;simpa using h
       exact J _ _ _ A6 c6 _ ((((Held.newAt _ [.string ⟨#[]⟩,.int .i64 0,.int .i64 0] 25 (by first | rfl | simp))).alloc _).alloc _) ((Held.newAt _ aj 42 (by first | rfl | simp))) (((Held.newAt _ JB 69 (by first | rfl | simp))).alloc _) (by (try simp);(try omega)) (by (try simp);(try omega)) (by (try simp);(try omega)) (by (try simp);(try omega)) (by (try simp);(try omega)) (by (try simp);(try omega)) hHeld (Reads.below (Reads.more kP (fun b hl h=>by (try simp at h);refine ⟨?_,?_,?_⟩ <;> (intro e;omega))) ((((Below.refl _ _).alloc (by (try simp);(try omega)) _).alloc (by (try simp);(try omega)) _).alloc (by (try simp);(try omega)) _))
   · go_simp
     refine hK.out _ _ ?ayz (fun hHeld=>?_)
     case ayz=>(exact Below.alloc hHeld hHeld.size _)
     clear hK K
     try simp only [Act.put,la,lz,ls]
     refine wpAnyH_ready (rs:=[4,6]) (by kernel_rfl) (by simp) ?_
     refine AllReadyH.cons (o:=_) (ga rfl) (fun K hK=>?_) (AllReadyH.cons (o:=_) (ga rfl) (fun K hK=>?_) AllReadyH.nil)
     · go_simp
       refine hK.out _ _ ?ax7 (fun hHeld=>?_)
       case ax7=>(exact Below.alloc hHeld hHeld.size _)
       clear hK K
       try simp only [Act.put,la,lz,ls]
       refine tr 6 fun K hK=>?_
       go_simp
       refine hK.out _ _ ?ayU (fun hHeld=>?_)
       case ayU=>(exact Below.alloc hHeld hHeld.size _)
       clear hK K
       try simp only [Act.put,la,lz,ls]
       have hq:W.heap.size+0≤w6.heap.size:=by have h:=hb6.size;simpa using h
       exact J _ _ _ A6 c6 _ (((Held.newAt _ [.string ⟨#[]⟩,.int .i64 0,.int .i64 0] 25 (by first | rfl | simp))).alloc _) ((((Held.newAt _ aj 42 (by first | rfl | simp))).alloc _).alloc _) ((Held.newAt _ JB 69 (by first | rfl | simp))) (by (try simp);(try omega)) (by (try simp);(try omega)) (by (try simp);(try omega)) (by (try simp);(try omega)) (by (try simp);(try omega)) (by (try simp);(try omega)) hHeld (Reads.below (Reads.more kP (fun b hl h=>by (try simp at h);refine ⟨?_,?_,?_⟩ <;> (intro e;omega))) ((((Below.refl _ _).alloc (by (try simp);(try omega)) _).alloc (by (try simp);(try omega)) _).alloc (by (try simp);(try omega)) _))
     · go_simp
       refine hK.out _ _ ?ay1 (fun hHeld=>?_)
       case ay1=>(exact Below.alloc hHeld hHeld.size _)
       clear hK K
       try simp only [Act.put,la,lz,ls]
       refine tr 4 fun K hK=>?_
       go_simp
       refine hK.out _ _ ?aye (fun hHeld=>?_)
       case aye=>(exact Below.alloc hHeld hHeld.size _)
       clear hK K
       try simp only [Act.put,la,lz,ls]
       have hq:W.heap.size+0≤w6.heap.size:=by have h:=hb6.size;simpa using h
       exact J _ _ _ A6 c6 _ ((Held.newAt _ [.string ⟨#[]⟩,.int .i64 0,.int .i64 0] 25 (by first | rfl | simp))) ((((Held.newAt _ aj 42 (by first | rfl | simp))).alloc _).alloc _) (((Held.newAt _ JB 69 (by first | rfl | simp))).alloc _) (by (try simp);(try omega)) (by (try simp);(try omega)) (by (try simp);(try omega)) (by (try simp);(try omega)) (by (try simp);(try omega)) (by (try simp);(try omega)) hHeld (Reads.below (Reads.more kP (fun b hl h=>by (try simp at h);refine ⟨?_,?_,?_⟩ <;> (intro e;omega))) ((((Below.refl _ _).alloc (by (try simp);(try omega)) _).alloc (by (try simp);(try omega)) _).alloc (by (try simp);(try omega)) _))
   · go_simp
     refine hK.out _ _ ?ay8 (fun hHeld=>?_)
     case ay8=>(exact Below.alloc hHeld hHeld.size _)
     clear hK K
     try simp only [Act.put,la,lz,ls]
     refine wpAnyH_ready (rs:=[4,5]) (by kernel_rfl) (by simp) ?_
     refine AllReadyH.cons (o:=_) (ga rfl) (fun K hK=>?_) (AllReadyH.cons (o:=_) (ga rfl) (fun K hK=>?_) AllReadyH.nil)
     · go_simp
       refine hK.out _ _ ?apJ (fun hHeld=>?_)
       case apJ=>(exact Below.alloc hHeld hHeld.size _)
       clear hK K
       try simp only [Act.put,la,lz,ls]
       refine tr 5 fun K hK=>?_
       go_simp
       refine hK.out _ _ ?arf (fun hHeld=>?_)
       case arf=>(exact Below.alloc hHeld hHeld.size _)
       clear hK K
       try simp only [Act.put,la,lz,ls]
       have hq:W.heap.size+0≤w6.heap.size:=by have h:=hb6.size;simpa using h
       exact J _ _ _ A6 c6 _ (((Held.newAt _ [.string ⟨#[]⟩,.int .i64 0,.int .i64 0] 25 (by first | rfl | simp))).alloc _) ((Held.newAt _ aj 42 (by first | rfl | simp))) ((((Held.newAt _ JB 69 (by first | rfl | simp))).alloc _).alloc _) (by (try simp);(try omega)) (by (try simp);(try omega)) (by (try simp);(try omega)) (by (try simp);(try omega)) (by (try simp);(try omega)) (by (try simp);(try omega)) hHeld (Reads.below (Reads.more kP (fun b hl h=>by (try simp at h);refine ⟨?_,?_,?_⟩ <;> (intro e;omega))) ((((Below.refl _ _).alloc (by (try simp);(try omega)) _).alloc (by (try simp);(try omega)) _).alloc (by (try simp);(try omega)) _))
     · go_simp
       refine hK.out _ _ ?aro (fun hHeld=>?_)
       case aro=>(exact Below.alloc hHeld hHeld.size _)
       clear hK K
       try simp only [Act.put,la,lz,ls]
       refine tr 4 fun K hK=>?_
       go_simp
       refine hK.out _ _ ?apQ (fun hHeld=>?_)
       case apQ=>(exact Below.alloc hHeld hHeld.size _)
       clear hK K
       try simp only [Act.put,la,lz,ls]
       have hq:W.heap.size+0≤w6.heap.size:=by have h:=hb6.size;simpa using h
       exact J _ _ _ A6 c6 _ ((Held.newAt _ [.string ⟨#[]⟩,.int .i64 0,.int .i64 0] 25 (by first | rfl | simp))) (((Held.newAt _ aj 42 (by first | rfl | simp))).alloc _) ((((Held.newAt _ JB 69 (by first | rfl | simp))).alloc _).alloc _) (by (try simp);(try omega)) (by (try simp);(try omega)) (by (try simp);(try omega)) (by (try simp);(try omega)) (by (try simp);(try omega)) (by (try simp);(try omega)) hHeld (Reads.below (Reads.more kP (fun b hl h=>by (try simp at h);refine ⟨?_,?_,?_⟩ <;> (intro e;omega))) ((((Below.refl _ _).alloc (by (try simp);(try omega)) _).alloc (by (try simp);(try omega)) _).alloc (by (try simp);(try omega)) _))
 · go_simp
   refine hK.out _ _ ?apX (fun hHeld=>?_)
   case apX=>(exact Below.alloc hHeld hHeld.size _)
   clear hK K
   try simp only [Act.put,la,lz,ls]
   refine wpAnyH_ready (rs:=[3,5,6]) (by kernel_rfl) (by simp) ?_
   refine AllReadyH.cons (o:=_) (ga rfl) (fun K hK=>?_) (AllReadyH.cons (o:=_) (ga rfl) (fun K hK=>?_) (AllReadyH.cons (o:=_) (ga rfl) (fun K hK=>?_) AllReadyH.nil))
   · go_simp
     (go_at_call 26;refine (Zm (fun _=>True) x.x x.a x.c _ (Reads.below hF.rx hHeld) hF.fit).mono ?_;rintro e w6 ⟨A6,c6,rfl,kP,hb6⟩;have iR:W.heap.size≤w6.heap.size:=Nat.le_trans hHeld.size hb6.size)
     refine hK.out _ _ ?an0 (fun hHeld=>?_)
     case an0=>(exact hHeld.trans (hb6.mono hHeld.size))
     clear hK K
     try simp only [Act.put,la,lz,ls]
     refine wpAnyH_ready (rs:=[5,6]) (by kernel_rfl) (by simp) ?_
     refine AllReadyH.cons (o:=_) (ga rfl) (fun K hK=>?_) (AllReadyH.cons (o:=_) (ga rfl) (fun K hK=>?_) AllReadyH.nil)
     · go_simp
       refine hK.out _ _ ?arx (fun hHeld=>?_)
       case arx=>(exact Below.alloc hHeld hHeld.size _)
       clear hK K
       try simp only [Act.put,la,lz,ls]
       refine tr 6 fun K hK=>?_
       go_simp
       refine hK.out _ _ ?asV (fun hHeld=>?_)
       case asV=>(exact Below.alloc hHeld hHeld.size _)
       clear hK K
       try simp only [Act.put,la,lz,ls]
       have hq:W.heap.size+1≤w6.heap.size:=by have h:=hb6.size;simpa using h
       exact J _ _ _ A6 c6 _ (((((Held.newAt _ [.string ⟨#[]⟩,.int .i64 0,.int .i64 0] 25 (by first | rfl | simp)).drew.below hb6)).alloc _).alloc _) (((Held.newAt _ aj 42 (by first | rfl | simp))).alloc _) ((Held.newAt _ JB 69 (by first | rfl | simp))) (by (try simp);(try omega)) (by (try simp);(try omega)) (by (try simp);(try omega)) (by (try simp);(try omega)) (by (try simp);(try omega)) (by (try simp);(try omega)) hHeld (Reads.below (Reads.more kP (fun b hl h=>by (try simp at h);refine ⟨?_,?_,?_⟩ <;> (intro e;omega))) (((Below.refl _ _).alloc (by (try simp);(try omega)) _).alloc (by (try simp);(try omega)) _))
     · go_simp
       refine hK.out _ _ ?as3 (fun hHeld=>?_)
       case as3=>(exact Below.alloc hHeld hHeld.size _)
       clear hK K
       try simp only [Act.put,la,lz,ls]
       refine tr 5 fun K hK=>?_
       go_simp
       refine hK.out _ _ ?arF (fun hHeld=>?_)
       case arF=>(exact Below.alloc hHeld hHeld.size _)
       clear hK K
       try simp only [Act.put,la,lz,ls]
       have hq:W.heap.size+1≤w6.heap.size:=by have h:=hb6.size;simpa using h
       exact J _ _ _ A6 c6 _ (((((Held.newAt _ [.string ⟨#[]⟩,.int .i64 0,.int .i64 0] 25 (by first | rfl | simp)).drew.below hb6)).alloc _).alloc _) ((Held.newAt _ aj 42 (by first | rfl | simp))) (((Held.newAt _ JB 69 (by first | rfl | simp))).alloc _) (by (try simp);(try omega)) (by (try simp);(try omega)) (by (try simp);(try omega)) (by (try simp);(try omega)) (by (try simp);(try omega)) (by (try simp);(try omega)) hHeld (Reads.below (Reads.more kP (fun b hl h=>by (try simp at h);refine ⟨?_,?_,?_⟩ <;> (intro e;omega))) (((Below.refl _ _).alloc (by (try simp);(try omega)) _).alloc (by (try simp);(try omega)) _))
   · go_simp
     refine hK.out _ _ ?arM (fun hHeld=>?_)
     case arM=>(exact Below.alloc hHeld hHeld.size _)
     clear hK K
     try simp only [Act.put,la,lz,ls]
     refine wpAnyH_ready (rs:=[3,6]) (by kernel_rfl) (by simp) ?_
     refine AllReadyH.cons (o:=_) (ga rfl) (fun K hK=>?_) (AllReadyH.cons (o:=_) (ga rfl) (fun K hK=>?_) AllReadyH.nil)
     · go_simp
       (go_at_call 26;refine (Zm (fun _=>True) x.x x.a x.c _ (Reads.below hF.rx hHeld) hF.fit).mono ?_;rintro e w6 ⟨A6,c6,rfl,kP,hb6⟩;have iR:W.heap.size≤w6.heap.size:=Nat.le_trans hHeld.size hb6.size)
       refine hK.out _ _ ?an7 (fun hHeld=>?_)
       case an7=>(exact hHeld.trans (hb6.mono hHeld.size))
       clear hK K
       try simp only [Act.put,la,lz,ls]
       refine tr 6 fun K hK=>?_
       go_simp
       refine hK.out _ _ ?ata (fun hHeld=>?_)
       case ata=>(exact Below.alloc hHeld hHeld.size _)
       clear hK K
       try simp only [Act.put,la,lz,ls]
       have hq:W.heap.size+2≤w6.heap.size:=by have h:=hb6.size;simpa using h
       exact J _ _ _ A6 c6 _ (((((Held.newAt _ [.string ⟨#[]⟩,.int .i64 0,.int .i64 0] 25 (by first | rfl | simp)).alloc _).drew.below hb6)).alloc _) ((((Held.newAt _ aj 42 (by first | rfl | simp)).drew.below hb6)).alloc _) ((Held.newAt _ JB 69 (by first | rfl | simp))) (by (try simp);(try omega)) (by (try simp);(try omega)) (by (try simp);(try omega)) (by (try simp);(try omega)) (by (try simp);(try omega)) (by (try simp);(try omega)) hHeld (Reads.below (Reads.more kP (fun b hl h=>by (try simp at h);refine ⟨?_,?_,?_⟩ <;> (intro e;omega))) ((Below.refl _ _).alloc (by (try simp);(try omega)) _))
     · go_simp
       refine hK.out _ _ ?ath (fun hHeld=>?_)
       case ath=>(exact Below.alloc hHeld hHeld.size _)
       clear hK K
       try simp only [Act.put,la,lz,ls]
       refine tr 3 fun K hK=>?_
       go_simp
       (go_at_call 26;refine (Zm (fun _=>True) x.x x.a x.c _ (Reads.below hF.rx hHeld) hF.fit).mono ?_;rintro e w6 ⟨A6,c6,rfl,kP,hb6⟩;have iR:W.heap.size≤w6.heap.size:=Nat.le_trans hHeld.size hb6.size)
       refine hK.out _ _ ?aoe (fun hHeld=>?_)
       case aoe=>(exact hHeld.trans (hb6.mono hHeld.size))
       clear hK K
       try simp only [Act.put,la,lz,ls]
       have hq:W.heap.size+3≤w6.heap.size:=by have h:=hb6.size;simpa using h
       exact J _ _ _ A6 c6 _ (((((Held.newAt _ [.string ⟨#[]⟩,.int .i64 0,.int .i64 0] 25 (by first | rfl | simp)).alloc _).alloc _).drew.below hb6)) ((((Held.newAt _ aj 42 (by first | rfl | simp)).alloc _).drew.below hb6)) (((Held.newAt _ JB 69 (by first | rfl | simp)).drew.below hb6)) (by (try simp);(try omega)) (by (try simp);(try omega)) (by (try simp);(try omega)) (by (try simp);(try omega)) (by (try simp);(try omega)) (by (try simp);(try omega)) hHeld (Reads.below (Reads.more kP (fun b hl h=>by (try simp at h);refine ⟨?_,?_,?_⟩ <;> (intro e;omega))) (Below.refl _ _))
   · go_simp
     refine hK.out _ _ ?atp (fun hHeld=>?_)
     case atp=>(exact Below.alloc hHeld hHeld.size _)
     clear hK K
     try simp only [Act.put,la,lz,ls]
     refine wpAnyH_ready (rs:=[3,5]) (by kernel_rfl) (by simp) ?_
     refine AllReadyH.cons (o:=_) (ga rfl) (fun K hK=>?_) (AllReadyH.cons (o:=_) (ga rfl) (fun K hK=>?_) AllReadyH.nil)
     · go_simp
       (go_at_call 26;refine (Zm (fun _=>True) x.x x.a x.c _ (Reads.below hF.rx hHeld) hF.fit).mono ?_;rintro e w6 ⟨A6,c6,rfl,kP,hb6⟩;have iR:W.heap.size≤w6.heap.size:=Nat.le_trans hHeld.size hb6.size)
       refine hK.out _ _ ?aol (fun hHeld=>?_)
       case aol=>(exact hHeld.trans (hb6.mono hHeld.size))
       clear hK K
       try simp only [Act.put,la,lz,ls]
       refine tr 5 fun K hK=>?_
       go_simp
       refine hK.out _ _ ?arT (fun hHeld=>?_)
       case arT=>(exact Below.alloc hHeld hHeld.size _)
       clear hK K
       try simp only [Act.put,la,lz,ls]
       have hq:W.heap.size+2≤w6.heap.size:=by have h:=hb6.size;simpa using h
       exact J _ _ _ A6 c6 _ (((((Held.newAt _ [.string ⟨#[]⟩,.int .i64 0,.int .i64 0] 25 (by first | rfl | simp)).alloc _).drew.below hb6)).alloc _) ((Held.newAt _ aj 42 (by first | rfl | simp))) ((((Held.newAt _ JB 69 (by first | rfl | simp)).drew.below hb6)).alloc _) (by (try simp);(try omega)) (by (try simp);(try omega)) (by (try simp);(try omega)) (by (try simp);(try omega)) (by (try simp);(try omega)) (by (try simp);(try omega)) hHeld (Reads.below (Reads.more kP (fun b hl h=>by (try simp at h);refine ⟨?_,?_,?_⟩ <;> (intro e;omega))) ((Below.refl _ _).alloc (by (try simp);(try omega)) _))
     · go_simp
       refine hK.out _ _ ?ar0 (fun hHeld=>?_)
       case ar0=>(exact Below.alloc hHeld hHeld.size _)
       clear hK K
       try simp only [Act.put,la,lz,ls]
       refine tr 3 fun K hK=>?_
       go_simp
       (go_at_call 26;refine (Zm (fun _=>True) x.x x.a x.c _ (Reads.below hF.rx hHeld) hF.fit).mono ?_;rintro e w6 ⟨A6,c6,rfl,kP,hb6⟩;have iR:W.heap.size≤w6.heap.size:=Nat.le_trans hHeld.size hb6.size)
       refine hK.out _ _ ?aos (fun hHeld=>?_)
       case aos=>(exact hHeld.trans (hb6.mono hHeld.size))
       clear hK K
       try simp only [Act.put,la,lz,ls]
       have hq:W.heap.size+3≤w6.heap.size:=by have h:=hb6.size;simpa using h
       exact J _ _ _ A6 c6 _ (((((Held.newAt _ [.string ⟨#[]⟩,.int .i64 0,.int .i64 0] 25 (by first | rfl | simp)).alloc _).alloc _).drew.below hb6)) (((Held.newAt _ aj 42 (by first | rfl | simp)).drew.below hb6)) ((((Held.newAt _ JB 69 (by first | rfl | simp)).alloc _).drew.below hb6)) (by (try simp);(try omega)) (by (try simp);(try omega)) (by (try simp);(try omega)) (by (try simp);(try omega)) (by (try simp);(try omega)) (by (try simp);(try omega)) hHeld (Reads.below (Reads.more kP (fun b hl h=>by (try simp at h);refine ⟨?_,?_,?_⟩ <;> (intro e;omega))) (Below.refl _ _))
 · go_simp
   refine hK.out _ _ ?ar8 (fun hHeld=>?_)
   case ar8=>(exact Below.alloc hHeld hHeld.size _)
   clear hK K
   try simp only [Act.put,la,lz,ls]
   refine wpAnyH_ready (rs:=[3,4,6]) (by kernel_rfl) (by simp) ?_
   refine AllReadyH.cons (o:=_) (ga rfl) (fun K hK=>?_) (AllReadyH.cons (o:=_) (ga rfl) (fun K hK=>?_) (AllReadyH.cons (o:=_) (ga rfl) (fun K hK=>?_) AllReadyH.nil))
   · go_simp
     (go_at_call 26;refine (Zm (fun _=>True) x.x x.a x.c _ (Reads.below hF.rx hHeld) hF.fit).mono ?_;rintro e w6 ⟨A6,c6,rfl,kP,hb6⟩;have iR:W.heap.size≤w6.heap.size:=Nat.le_trans hHeld.size hb6.size)
     refine hK.out _ _ ?aoz (fun hHeld=>?_)
     case aoz=>(exact hHeld.trans (hb6.mono hHeld.size))
     clear hK K
     try simp only [Act.put,la,lz,ls]
     refine wpAnyH_ready (rs:=[4,6]) (by kernel_rfl) (by simp) ?_
     refine AllReadyH.cons (o:=_) (ga rfl) (fun K hK=>?_) (AllReadyH.cons (o:=_) (ga rfl) (fun K hK=>?_) AllReadyH.nil)
     · go_simp
       refine hK.out _ _ ?ap4 (fun hHeld=>?_)
       case ap4=>(exact Below.alloc hHeld hHeld.size _)
       clear hK K
       try simp only [Act.put,la,lz,ls]
       refine tr 6 fun K hK=>?_
       go_simp
       refine hK.out _ _ ?atx (fun hHeld=>?_)
       case atx=>(exact Below.alloc hHeld hHeld.size _)
       clear hK K
       try simp only [Act.put,la,lz,ls]
       have hq:W.heap.size+1≤w6.heap.size:=by have h:=hb6.size;simpa using h
       exact J _ _ _ A6 c6 _ (((Held.newAt _ [.string ⟨#[]⟩,.int .i64 0,.int .i64 0] 25 (by first | rfl | simp))).alloc _) (((((Held.newAt _ aj 42 (by first | rfl | simp)).drew.below hb6)).alloc _).alloc _) ((Held.newAt _ JB 69 (by first | rfl | simp))) (by (try simp);(try omega)) (by (try simp);(try omega)) (by (try simp);(try omega)) (by (try simp);(try omega)) (by (try simp);(try omega)) (by (try simp);(try omega)) hHeld (Reads.below (Reads.more kP (fun b hl h=>by (try simp at h);refine ⟨?_,?_,?_⟩ <;> (intro e;omega))) (((Below.refl _ _).alloc (by (try simp);(try omega)) _).alloc (by (try simp);(try omega)) _))
     · go_simp
       refine hK.out _ _ ?atE (fun hHeld=>?_)
       case atE=>(exact Below.alloc hHeld hHeld.size _)
       clear hK K
       try simp only [Act.put,la,lz,ls]
       refine tr 4 fun K hK=>?_
       go_simp
       refine hK.out _ _ ?aqb (fun hHeld=>?_)
       case aqb=>(exact Below.alloc hHeld hHeld.size _)
       clear hK K
       try simp only [Act.put,la,lz,ls]
       have hq:W.heap.size+1≤w6.heap.size:=by have h:=hb6.size;simpa using h
       exact J _ _ _ A6 c6 _ ((Held.newAt _ [.string ⟨#[]⟩,.int .i64 0,.int .i64 0] 25 (by first | rfl | simp))) (((((Held.newAt _ aj 42 (by first | rfl | simp)).drew.below hb6)).alloc _).alloc _) (((Held.newAt _ JB 69 (by first | rfl | simp))).alloc _) (by (try simp);(try omega)) (by (try simp);(try omega)) (by (try simp);(try omega)) (by (try simp);(try omega)) (by (try simp);(try omega)) (by (try simp);(try omega)) hHeld (Reads.below (Reads.more kP (fun b hl h=>by (try simp at h);refine ⟨?_,?_,?_⟩ <;> (intro e;omega))) (((Below.refl _ _).alloc (by (try simp);(try omega)) _).alloc (by (try simp);(try omega)) _))
   · go_simp
     refine hK.out _ _ ?aqi (fun hHeld=>?_)
     case aqi=>(exact Below.alloc hHeld hHeld.size _)
     clear hK K
     try simp only [Act.put,la,lz,ls]
     refine wpAnyH_ready (rs:=[3,6]) (by kernel_rfl) (by simp) ?_
     refine AllReadyH.cons (o:=_) (ga rfl) (fun K hK=>?_) (AllReadyH.cons (o:=_) (ga rfl) (fun K hK=>?_) AllReadyH.nil)
     · go_simp
       (go_at_call 26;refine (Zm (fun _=>True) x.x x.a x.c _ (Reads.below hF.rx hHeld) hF.fit).mono ?_;rintro e w6 ⟨A6,c6,rfl,kP,hb6⟩;have iR:W.heap.size≤w6.heap.size:=Nat.le_trans hHeld.size hb6.size)
       refine hK.out _ _ ?aoG (fun hHeld=>?_)
       case aoG=>(exact hHeld.trans (hb6.mono hHeld.size))
       clear hK K
       try simp only [Act.put,la,lz,ls]
       refine tr 6 fun K hK=>?_
       go_simp
       refine hK.out _ _ ?atL (fun hHeld=>?_)
       case atL=>(exact Below.alloc hHeld hHeld.size _)
       clear hK K
       try simp only [Act.put,la,lz,ls]
       have hq:W.heap.size+2≤w6.heap.size:=by have h:=hb6.size;simpa using h
       exact J _ _ _ A6 c6 _ ((((Held.newAt _ [.string ⟨#[]⟩,.int .i64 0,.int .i64 0] 25 (by first | rfl | simp)).drew.below hb6)).alloc _) (((((Held.newAt _ aj 42 (by first | rfl | simp)).alloc _).drew.below hb6)).alloc _) ((Held.newAt _ JB 69 (by first | rfl | simp))) (by (try simp);(try omega)) (by (try simp);(try omega)) (by (try simp);(try omega)) (by (try simp);(try omega)) (by (try simp);(try omega)) (by (try simp);(try omega)) hHeld (Reads.below (Reads.more kP (fun b hl h=>by (try simp at h);refine ⟨?_,?_,?_⟩ <;> (intro e;omega))) ((Below.refl _ _).alloc (by (try simp);(try omega)) _))
     · go_simp
       refine hK.out _ _ ?atT (fun hHeld=>?_)
       case atT=>(exact Below.alloc hHeld hHeld.size _)
       clear hK K
       try simp only [Act.put,la,lz,ls]
       refine tr 3 fun K hK=>?_
       go_simp
       (go_at_call 26;refine (Zm (fun _=>True) x.x x.a x.c _ (Reads.below hF.rx hHeld) hF.fit).mono ?_;rintro e w6 ⟨A6,c6,rfl,kP,hb6⟩;have iR:W.heap.size≤w6.heap.size:=Nat.le_trans hHeld.size hb6.size)
       refine hK.out _ _ ?aoN (fun hHeld=>?_)
       case aoN=>(exact hHeld.trans (hb6.mono hHeld.size))
       clear hK K
       try simp only [Act.put,la,lz,ls]
       have hq:W.heap.size+3≤w6.heap.size:=by have h:=hb6.size;simpa using h
       exact J _ _ _ A6 c6 _ ((((Held.newAt _ [.string ⟨#[]⟩,.int .i64 0,.int .i64 0] 25 (by first | rfl | simp)).alloc _).drew.below hb6)) (((((Held.newAt _ aj 42 (by first | rfl | simp)).alloc _).alloc _).drew.below hb6)) (((Held.newAt _ JB 69 (by first | rfl | simp)).drew.below hb6)) (by (try simp);(try omega)) (by (try simp);(try omega)) (by (try simp);(try omega)) (by (try simp);(try omega)) (by (try simp);(try omega)) (by (try simp);(try omega)) hHeld (Reads.below (Reads.more kP (fun b hl h=>by (try simp at h);refine ⟨?_,?_,?_⟩ <;> (intro e;omega))) (Below.refl _ _))
   · go_simp
     refine hK.out _ _ ?at1 (fun hHeld=>?_)
     case at1=>(exact Below.alloc hHeld hHeld.size _)
     clear hK K
     try simp only [Act.put,la,lz,ls]
     refine wpAnyH_ready (rs:=[3,4]) (by kernel_rfl) (by simp) ?_
     refine AllReadyH.cons (o:=_) (ga rfl) (fun K hK=>?_) (AllReadyH.cons (o:=_) (ga rfl) (fun K hK=>?_) AllReadyH.nil)
     · go_simp
       (go_at_call 26;refine (Zm (fun _=>True) x.x x.a x.c _ (Reads.below hF.rx hHeld) hF.fit).mono ?_;rintro e w6 ⟨A6,c6,rfl,kP,hb6⟩;have iR:W.heap.size≤w6.heap.size:=Nat.le_trans hHeld.size hb6.size)
       refine hK.out _ _ ?aoU (fun hHeld=>?_)
       case aoU=>(exact hHeld.trans (hb6.mono hHeld.size))
       clear hK K
       try simp only [Act.put,la,lz,ls]
       refine tr 4 fun K hK=>?_
       go_simp
       refine hK.out _ _ ?aqp (fun hHeld=>?_)
       case aqp=>(exact Below.alloc hHeld hHeld.size _)
       clear hK K
       try simp only [Act.put,la,lz,ls]
       have hq:W.heap.size+2≤w6.heap.size:=by have h:=hb6.size;simpa using h
       exact J _ _ _ A6 c6 _ ((Held.newAt _ [.string ⟨#[]⟩,.int .i64 0,.int .i64 0] 25 (by first | rfl | simp))) (((((Held.newAt _ aj 42 (by first | rfl | simp)).alloc _).drew.below hb6)).alloc _) ((((Held.newAt _ JB 69 (by first | rfl | simp)).drew.below hb6)).alloc _) (by (try simp);(try omega)) (by (try simp);(try omega)) (by (try simp);(try omega)) (by (try simp);(try omega)) (by (try simp);(try omega)) (by (try simp);(try omega)) hHeld (Reads.below (Reads.more kP (fun b hl h=>by (try simp at h);refine ⟨?_,?_,?_⟩ <;> (intro e;omega))) ((Below.refl _ _).alloc (by (try simp);(try omega)) _))
     · go_simp
       refine hK.out _ _ ?aqx (fun hHeld=>?_)
       case aqx=>(exact Below.alloc hHeld hHeld.size _)
       clear hK K
       try simp only [Act.put,la,lz,ls]
       refine tr 3 fun K hK=>?_
       go_simp
       (go_at_call 26;refine (Zm (fun _=>True) x.x x.a x.c _ (Reads.below hF.rx hHeld) hF.fit).mono ?_;rintro e w6 ⟨A6,c6,rfl,kP,hb6⟩;have iR:W.heap.size≤w6.heap.size:=Nat.le_trans hHeld.size hb6.size)
       refine hK.out _ _ ?ao1 (fun hHeld=>?_)
       case ao1=>(exact hHeld.trans (hb6.mono hHeld.size))
       clear hK K
       try simp only [Act.put,la,lz,ls]
       have hq:W.heap.size+3≤w6.heap.size:=by have h:=hb6.size;simpa using h
       exact J _ _ _ A6 c6 _ (((Held.newAt _ [.string ⟨#[]⟩,.int .i64 0,.int .i64 0] 25 (by first | rfl | simp)).drew.below hb6)) (((((Held.newAt _ aj 42 (by first | rfl | simp)).alloc _).alloc _).drew.below hb6)) ((((Held.newAt _ JB 69 (by first | rfl | simp)).alloc _).drew.below hb6)) (by (try simp);(try omega)) (by (try simp);(try omega)) (by (try simp);(try omega)) (by (try simp);(try omega)) (by (try simp);(try omega)) (by (try simp);(try omega)) hHeld (Reads.below (Reads.more kP (fun b hl h=>by (try simp at h);refine ⟨?_,?_,?_⟩ <;> (intro e;omega))) (Below.refl _ _))
 · go_simp
   refine hK.out _ _ ?aue (fun hHeld=>?_)
   case aue=>(exact Below.alloc hHeld hHeld.size _)
   clear hK K
   try simp only [Act.put,la,lz,ls]
   refine wpAnyH_ready (rs:=[3,4,5]) (by kernel_rfl) (by simp) ?_
   refine AllReadyH.cons (o:=_) (ga rfl) (fun K hK=>?_) (AllReadyH.cons (o:=_) (ga rfl) (fun K hK=>?_) (AllReadyH.cons (o:=_) (ga rfl) (fun K hK=>?_) AllReadyH.nil))
   · go_simp
     (go_at_call 26;refine (Zm (fun _=>True) x.x x.a x.c _ (Reads.below hF.rx hHeld) hF.fit).mono ?_;rintro e w6 ⟨A6,c6,rfl,kP,hb6⟩;have iR:W.heap.size≤w6.heap.size:=Nat.le_trans hHeld.size hb6.size)
     refine hK.out _ _ ?ao8 (fun hHeld=>?_)
     case ao8=>(exact hHeld.trans (hb6.mono hHeld.size))
     clear hK K
     try simp only [Act.put,la,lz,ls]
     refine wpAnyH_ready (rs:=[4,5]) (by kernel_rfl) (by simp) ?_
     refine AllReadyH.cons (o:=_) (ga rfl) (fun K hK=>?_) (AllReadyH.cons (o:=_) (ga rfl) (fun K hK=>?_) AllReadyH.nil)
     · go_simp
       refine hK.out _ _ ?aqE (fun hHeld=>?_)
       case aqE=>(exact Below.alloc hHeld hHeld.size _)
       clear hK K
       try simp only [Act.put,la,lz,ls]
       refine tr 5 fun K hK=>?_
       go_simp
       refine hK.out _ _ ?asg (fun hHeld=>?_)
       case asg=>(exact Below.alloc hHeld hHeld.size _)
       clear hK K
       try simp only [Act.put,la,lz,ls]
       have hq:W.heap.size+1≤w6.heap.size:=by have h:=hb6.size;simpa using h
       exact J _ _ _ A6 c6 _ (((Held.newAt _ [.string ⟨#[]⟩,.int .i64 0,.int .i64 0] 25 (by first | rfl | simp))).alloc _) ((Held.newAt _ aj 42 (by first | rfl | simp))) (((((Held.newAt _ JB 69 (by first | rfl | simp)).drew.below hb6)).alloc _).alloc _) (by (try simp);(try omega)) (by (try simp);(try omega)) (by (try simp);(try omega)) (by (try simp);(try omega)) (by (try simp);(try omega)) (by (try simp);(try omega)) hHeld (Reads.below (Reads.more kP (fun b hl h=>by (try simp at h);refine ⟨?_,?_,?_⟩ <;> (intro e;omega))) (((Below.refl _ _).alloc (by (try simp);(try omega)) _).alloc (by (try simp);(try omega)) _))
     · go_simp
       refine hK.out _ _ ?asq (fun hHeld=>?_)
       case asq=>(exact Below.alloc hHeld hHeld.size _)
       clear hK K
       try simp only [Act.put,la,lz,ls]
       refine tr 4 fun K hK=>?_
       go_simp
       refine hK.out _ _ ?aqL (fun hHeld=>?_)
       case aqL=>(exact Below.alloc hHeld hHeld.size _)
       clear hK K
       try simp only [Act.put,la,lz,ls]
       have hq:W.heap.size+1≤w6.heap.size:=by have h:=hb6.size;simpa using h
       exact J _ _ _ A6 c6 _ ((Held.newAt _ [.string ⟨#[]⟩,.int .i64 0,.int .i64 0] 25 (by first | rfl | simp))) (((Held.newAt _ aj 42 (by first | rfl | simp))).alloc _) (((((Held.newAt _ JB 69 (by first | rfl | simp)).drew.below hb6)).alloc _).alloc _) (by (try simp);(try omega)) (by (try simp);(try omega)) (by (try simp);(try omega)) (by (try simp);(try omega)) (by (try simp);(try omega)) (by (try simp);(try omega)) hHeld (Reads.below (Reads.more kP (fun b hl h=>by (try simp at h);refine ⟨?_,?_,?_⟩ <;> (intro e;omega))) (((Below.refl _ _).alloc (by (try simp);(try omega)) _).alloc (by (try simp);(try omega)) _))
   · go_simp
     refine hK.out _ _ ?aqS (fun hHeld=>?_)
     case aqS=>(exact Below.alloc hHeld hHeld.size _)
     clear hK K
     try simp only [Act.put,la,lz,ls]
     refine wpAnyH_ready (rs:=[3,5]) (by kernel_rfl) (by simp) ?_
     refine AllReadyH.cons (o:=_) (ga rfl) (fun K hK=>?_) (AllReadyH.cons (o:=_) (ga rfl) (fun K hK=>?_) AllReadyH.nil)
     · go_simp
       (go_at_call 26;refine (Zm (fun _=>True) x.x x.a x.c _ (Reads.below hF.rx hHeld) hF.fit).mono ?_;rintro e w6 ⟨A6,c6,rfl,kP,hb6⟩;have iR:W.heap.size≤w6.heap.size:=Nat.le_trans hHeld.size hb6.size)
       refine hK.out _ _ ?apf (fun hHeld=>?_)
       case apf=>(exact hHeld.trans (hb6.mono hHeld.size))
       clear hK K
       try simp only [Act.put,la,lz,ls]
       refine tr 5 fun K hK=>?_
       go_simp
       refine hK.out _ _ ?asz (fun hHeld=>?_)
       case asz=>(exact Below.alloc hHeld hHeld.size _)
       clear hK K
       try simp only [Act.put,la,lz,ls]
       have hq:W.heap.size+2≤w6.heap.size:=by have h:=hb6.size;simpa using h
       exact J _ _ _ A6 c6 _ ((((Held.newAt _ [.string ⟨#[]⟩,.int .i64 0,.int .i64 0] 25 (by first | rfl | simp)).drew.below hb6)).alloc _) ((Held.newAt _ aj 42 (by first | rfl | simp))) (((((Held.newAt _ JB 69 (by first | rfl | simp)).alloc _).drew.below hb6)).alloc _) (by (try simp);(try omega)) (by (try simp);(try omega)) (by (try simp);(try omega)) (by (try simp);(try omega)) (by (try simp);(try omega)) (by (try simp);(try omega)) hHeld (Reads.below (Reads.more kP (fun b hl h=>by (try simp at h);refine ⟨?_,?_,?_⟩ <;> (intro e;omega))) ((Below.refl _ _).alloc (by (try simp);(try omega)) _))
     · go_simp
       refine hK.out _ _ ?asG (fun hHeld=>?_)
       case asG=>(exact Below.alloc hHeld hHeld.size _)
       clear hK K
       try simp only [Act.put,la,lz,ls]
       refine tr 3 fun K hK=>?_
       go_simp
       (go_at_call 26;refine (Zm (fun _=>True) x.x x.a x.c _ (Reads.below hF.rx hHeld) hF.fit).mono ?_;rintro e w6 ⟨A6,c6,rfl,kP,hb6⟩;have iR:W.heap.size≤w6.heap.size:=Nat.le_trans hHeld.size hb6.size)
       refine hK.out _ _ ?apn (fun hHeld=>?_)
       case apn=>(exact hHeld.trans (hb6.mono hHeld.size))
       clear hK K
       try simp only [Act.put,la,lz,ls]
       have hq:W.heap.size+3≤w6.heap.size:=by have h:=hb6.size;simpa using h
       exact J _ _ _ A6 c6 _ ((((Held.newAt _ [.string ⟨#[]⟩,.int .i64 0,.int .i64 0] 25 (by first | rfl | simp)).alloc _).drew.below hb6)) (((Held.newAt _ aj 42 (by first | rfl | simp)).drew.below hb6)) (((((Held.newAt _ JB 69 (by first | rfl | simp)).alloc _).alloc _).drew.below hb6)) (by (try simp);(try omega)) (by (try simp);(try omega)) (by (try simp);(try omega)) (by (try simp);(try omega)) (by (try simp);(try omega)) (by (try simp);(try omega)) hHeld (Reads.below (Reads.more kP (fun b hl h=>by (try simp at h);refine ⟨?_,?_,?_⟩ <;> (intro e;omega))) (Below.refl _ _))
   · go_simp
     refine hK.out _ _ ?asN (fun hHeld=>?_)
     case asN=>(exact Below.alloc hHeld hHeld.size _)
     clear hK K
     try simp only [Act.put,la,lz,ls]
     refine wpAnyH_ready (rs:=[3,4]) (by kernel_rfl) (by simp) ?_
     refine AllReadyH.cons (o:=_) (ga rfl) (fun K hK=>?_) (AllReadyH.cons (o:=_) (ga rfl) (fun K hK=>?_) AllReadyH.nil)
     · go_simp
       (go_at_call 26;refine (Zm (fun _=>True) x.x x.a x.c _ (Reads.below hF.rx hHeld) hF.fit).mono ?_;rintro e w6 ⟨A6,c6,rfl,kP,hb6⟩;have iR:W.heap.size≤w6.heap.size:=Nat.le_trans hHeld.size hb6.size)
       refine hK.out _ _ ?apv (fun hHeld=>?_)
       case apv=>(exact hHeld.trans (hb6.mono hHeld.size))
       clear hK K
       try simp only [Act.put,la,lz,ls]
       refine tr 4 fun K hK=>?_
       go_simp
       refine hK.out _ _ ?aqZ (fun hHeld=>?_)
       case aqZ=>(exact Below.alloc hHeld hHeld.size _)
       clear hK K
       try simp only [Act.put,la,lz,ls]
       have hq:W.heap.size+2≤w6.heap.size:=by have h:=hb6.size;simpa using h
       exact J _ _ _ A6 c6 _ ((Held.newAt _ [.string ⟨#[]⟩,.int .i64 0,.int .i64 0] 25 (by first | rfl | simp))) ((((Held.newAt _ aj 42 (by first | rfl | simp)).drew.below hb6)).alloc _) (((((Held.newAt _ JB 69 (by first | rfl | simp)).alloc _).drew.below hb6)).alloc _) (by (try simp);(try omega)) (by (try simp);(try omega)) (by (try simp);(try omega)) (by (try simp);(try omega)) (by (try simp);(try omega)) (by (try simp);(try omega)) hHeld (Reads.below (Reads.more kP (fun b hl h=>by (try simp at h);refine ⟨?_,?_,?_⟩ <;> (intro e;omega))) ((Below.refl _ _).alloc (by (try simp);(try omega)) _))
     · go_simp
       refine hK.out _ _ ?aq6 (fun hHeld=>?_)
       case aq6=>(exact Below.alloc hHeld hHeld.size _)
       clear hK K
       try simp only [Act.put,la,lz,ls]
       refine tr 3 fun K hK=>?_
       go_simp
       (go_at_call 26;refine (Zm (fun _=>True) x.x x.a x.c _ (Reads.below hF.rx hHeld) hF.fit).mono ?_;rintro e w6 ⟨A6,c6,rfl,kP,hb6⟩;have iR:W.heap.size≤w6.heap.size:=Nat.le_trans hHeld.size hb6.size)
       refine hK.out _ _ ?apC (fun hHeld=>?_)
       case apC=>(exact hHeld.trans (hb6.mono hHeld.size))
       clear hK K
       try simp only [Act.put,la,lz,ls]
       have hq:W.heap.size+3≤w6.heap.size:=by have h:=hb6.size;simpa using h
       exact J _ _ _ A6 c6 _ (((Held.newAt _ [.string ⟨#[]⟩,.int .i64 0,.int .i64 0] 25 (by first | rfl | simp)).drew.below hb6)) ((((Held.newAt _ aj 42 (by first | rfl | simp)).alloc _).drew.below hb6)) (((((Held.newAt _ JB 69 (by first | rfl | simp)).alloc _).alloc _).drew.below hb6)) (by (try simp);(try omega)) (by (try simp);(try omega)) (by (try simp);(try omega)) (by (try simp);(try omega)) (by (try simp);(try omega)) (by (try simp);(try omega)) hHeld (Reads.below (Reads.more kP (fun b hl h=>by (try simp at h);refine ⟨?_,?_,?_⟩ <;> (intro e;omega))) (Below.refl _ _))
theorem aHR (W0:World) (r:M.Rules) (s:M.State) (x:Sh) (As:Option Addr) (cs:Nat) (HG:Hid (Glob W0)) (HN:Hid (aB5 W0 r s x As cs)):aBY W0 r s x As cs:=by
 dsimp only [aBY,PNQ]
 intros
 rename_i W hf
 dsimp only [acV,dQ,Tryz.f9,Option.getD]
 have hE:=hf
 obtain ⟨hF,B7,B8,B9,A9,c9,rfl,h7,rfl,h8,rfl,h9,hp9⟩:=id hE
 have hF':=hF
 obtain ⟨rfl,rfl,rfl,h3,h4,h5,hs,hx,hfit,hbw⟩:=hF'
 have k0:=h3.cell (j:=0) rfl
 have HG9:=hide (HG.out.below hbw)
 apply wp_seq_k
 intro K hK
 have HK:=hide hK
 clear hK
 apply wp_seq_k
 intro K2 hK2
 have PD:=hide hK2
 clear hK2
 by_cases hg:60<r.game.size
 · have hg':(60:Int)<(r.game.size:Int):=by omega
   go_wp2_with (first | (refine aN 42 (.tmp 8) rfl ?_;refine aG (h8) Tryz.underlying42 rfl Zh rfl (.tmp 8) rfl rfl ?_) | (refine aN 42 (.tmp 8) rfl ?_;refine su (h8) Tryz.underlying42 rfl Zh rfl (.tmp 8) rfl rfl ?_) | (refine vg 42 (.tmp 8) rfl ?_;refine sD (h8) Tryz.underlying42 rfl Zh (.tmp 8) rfl rfl ?_) | (refine aN 69 (.tmp 9) rfl ?_;refine aG (h9') Tryz.underlying69 rfl Zj rfl (.tmp 9) rfl rfl ?_) | (refine aN 69 (.tmp 9) rfl ?_;refine su (h9') Tryz.underlying69 rfl Zj rfl (.tmp 9) rfl rfl ?_) | (refine vg 69 (.tmp 9) rfl ?_;refine sD (h9') Tryz.underlying69 rfl Zj (.tmp 9) rfl rfl ?_) | (go_at_call 34;refine (ZV s As cs _ (bD.bd hs).2.2).mono ?_;rw [hd1];rintro e w1 ⟨rfl,hb1⟩;have HG9:=hide (HG9.out.below hb1);have h9':=h9.below hb1;have h7':=h7.below hb1;have h8':=h8.below hb1;dsimp only) | (go_at_call 27;refine (Z4 x.x A9 c9 _ (jl.bd hp9).2.2).mono ?_;rw [hd2];rintro e w2 ⟨rfl,hb2⟩;have HG9:=hide (HG9.out.below hb2);have aCS:=h7'.below hb2;have aCZ:=h8'.below hb2;have aC6:=h9'.below hb2;dsimp only))
   refine PD.out _ _ ?_
   go_wp2_with (first | (go_at_call 17;refine (QJ _ HG9.out).mono ?_;rintro e w9 ⟨rfl,U6⟩;dsimp only))
   go_ret
   exact ⟨rfl,VY hbw U6⟩
 · have hg':¬ (60:Int)<(r.game.size:Int):=by omega
   by_cases h20:s.ay.length≤20
   · have hd1:decide (s.ay.length≤20)=true:=decide_eq_true h20
     clear h20
     by_cases hsx:x.x.kind.size≤60∧x.x.aA.length≤18
     · have hd2:decide (x.x.kind.size≤60∧x.x.aA.length≤18)=true:=decide_eq_true hsx
       clear hsx
       go_wp2_with (first | (refine aN 42 (.tmp 8) rfl ?_;refine aG (h8) Tryz.underlying42 rfl Zh rfl (.tmp 8) rfl rfl ?_) | (refine aN 42 (.tmp 8) rfl ?_;refine su (h8) Tryz.underlying42 rfl Zh rfl (.tmp 8) rfl rfl ?_) | (refine vg 42 (.tmp 8) rfl ?_;refine sD (h8) Tryz.underlying42 rfl Zh (.tmp 8) rfl rfl ?_) | (refine aN 69 (.tmp 9) rfl ?_;refine aG (h9') Tryz.underlying69 rfl Zj rfl (.tmp 9) rfl rfl ?_) | (refine aN 69 (.tmp 9) rfl ?_;refine su (h9') Tryz.underlying69 rfl Zj rfl (.tmp 9) rfl rfl ?_) | (refine vg 69 (.tmp 9) rfl ?_;refine sD (h9') Tryz.underlying69 rfl Zj (.tmp 9) rfl rfl ?_) | (go_at_call 34;refine (ZV s As cs _ (bD.bd hs).2.2).mono ?_;rw [hd1];rintro e w1 ⟨rfl,hb1⟩;have HG9:=hide (HG9.out.below hb1);have h9':=h9.below hb1;have h7':=h7.below hb1;have h8':=h8.below hb1;dsimp only) | (go_at_call 27;refine (Z4 x.x A9 c9 _ (jl.bd hp9).2.2).mono ?_;rw [hd2];rintro e w2 ⟨rfl,hb2⟩;have HG9:=hide (HG9.out.below hb2);have aCS:=h7'.below hb2;have aCZ:=h8'.below hb2;have aC6:=h9'.below hb2;dsimp only))
       refine PD.out _ _ ?_
       go_wp2
       refine HK.out _ _ ?_
       apply HN.out
       exact (hE.below hb1).below hb2
     · have hd2:decide (x.x.kind.size≤60∧x.x.aA.length≤18)=false:=decide_eq_false hsx
       clear hsx
       go_wp2_with (first | (refine aN 42 (.tmp 8) rfl ?_;refine aG (h8) Tryz.underlying42 rfl Zh rfl (.tmp 8) rfl rfl ?_) | (refine aN 42 (.tmp 8) rfl ?_;refine su (h8) Tryz.underlying42 rfl Zh rfl (.tmp 8) rfl rfl ?_) | (refine vg 42 (.tmp 8) rfl ?_;refine sD (h8) Tryz.underlying42 rfl Zh (.tmp 8) rfl rfl ?_) | (refine aN 69 (.tmp 9) rfl ?_;refine aG (h9') Tryz.underlying69 rfl Zj rfl (.tmp 9) rfl rfl ?_) | (refine aN 69 (.tmp 9) rfl ?_;refine su (h9') Tryz.underlying69 rfl Zj rfl (.tmp 9) rfl rfl ?_) | (refine vg 69 (.tmp 9) rfl ?_;refine sD (h9') Tryz.underlying69 rfl Zj (.tmp 9) rfl rfl ?_) | (go_at_call 34;refine (ZV s As cs _ (bD.bd hs).2.2).mono ?_;rw [hd1];rintro e w1 ⟨rfl,hb1⟩;have HG9:=hide (HG9.out.below hb1);have h9':=h9.below hb1;have h7':=h7.below hb1;have h8':=h8.below hb1;dsimp only) | (go_at_call 27;refine (Z4 x.x A9 c9 _ (jl.bd hp9).2.2).mono ?_;rw [hd2];rintro e w2 ⟨rfl,hb2⟩;have HG9:=hide (HG9.out.below hb2);have aCS:=h7'.below hb2;have aCZ:=h8'.below hb2;have aC6:=h9'.below hb2;dsimp only))
       refine PD.out _ _ ?_
       go_wp2_with (first | (go_at_call 17;refine (QJ _ HG9.out).mono ?_;rintro e w9 ⟨rfl,U6⟩;dsimp only))
       go_ret
       exact ⟨rfl,VY (VY (VY hbw hb1) hb2) U6⟩
   · have hd1:decide (s.ay.length≤20)=false:=decide_eq_false h20
     clear h20
     go_wp2_with (first | (refine aN 42 (.tmp 8) rfl ?_;refine aG (h8) Tryz.underlying42 rfl Zh rfl (.tmp 8) rfl rfl ?_) | (refine aN 42 (.tmp 8) rfl ?_;refine su (h8) Tryz.underlying42 rfl Zh rfl (.tmp 8) rfl rfl ?_) | (refine vg 42 (.tmp 8) rfl ?_;refine sD (h8) Tryz.underlying42 rfl Zh (.tmp 8) rfl rfl ?_) | (refine aN 69 (.tmp 9) rfl ?_;refine aG (h9') Tryz.underlying69 rfl Zj rfl (.tmp 9) rfl rfl ?_) | (refine aN 69 (.tmp 9) rfl ?_;refine su (h9') Tryz.underlying69 rfl Zj rfl (.tmp 9) rfl rfl ?_) | (refine vg 69 (.tmp 9) rfl ?_;refine sD (h9') Tryz.underlying69 rfl Zj (.tmp 9) rfl rfl ?_) | (go_at_call 34;refine (ZV s As cs _ (bD.bd hs).2.2).mono ?_;rw [hd1];rintro e w1 ⟨rfl,hb1⟩;have HG9:=hide (HG9.out.below hb1);have h9':=h9.below hb1;have h7':=h7.below hb1;have h8':=h8.below hb1;dsimp only) | (go_at_call 27;refine (Z4 x.x A9 c9 _ (jl.bd hp9).2.2).mono ?_;rw [hd2];rintro e w2 ⟨rfl,hb2⟩;have HG9:=hide (HG9.out.below hb2);have aCS:=h7'.below hb2;have aCZ:=h8'.below hb2;have aC6:=h9'.below hb2;dsimp only))
     refine PD.out _ _ ?_
     go_wp2_with (first | (go_at_call 17;refine (QJ _ HG9.out).mono ?_;rintro e w9 ⟨rfl,U6⟩;dsimp only))
     go_ret
     exact ⟨rfl,VY (VY hbw hb1) U6⟩
theorem aHY (W0:World) (r:M.Rules) (s:M.State) (x:Sh) (As:Option Addr) (cs:Nat) (HG:Hid (Glob W0)) (HN:Hid (aCc W0 r s x As cs)):aB5 W0 r s x As cs:=by
 dsimp only [aB5,PNQ]
 intros
 rename_i W hf
 dsimp only [acV,dQ,Tryz.f9,Option.getD]
 have hE:=hf
 obtain ⟨hF,B7,B8,B9,A9,c9,rfl,h7,rfl,h8,rfl,h9,hp9⟩:=id hE
 obtain ⟨rfl,rfl,rfl,h3,h4,h5,hs,hx,hfit,hbw⟩:=hF
 have hcl:=anM _ r s x.x As x.a cs x.c W hs hx
 have JF:=hide hcl
 clear hcl
 apply wp_seq_k
 intro K hK
 have HK:=hide hK
 clear hK
 go_wp2_with (first | (refine aN 23 (.tmp 3) rfl ?_;refine aG (h3) Tryz.underlying23 rfl kV rfl (.tmp 3) rfl rfl ?_) | (refine aN 33 (.tmp 4) rfl ?_;refine aG (h4) Tryz.underlying33 rfl bW rfl (.tmp 4) rfl rfl ?_) | (refine aN 66 (.tmp 5) rfl ?_;refine aG (h5) Tryz.underlying66 rfl aV rfl (.tmp 5) rfl rfl ?_) | (go_at_call 44;refine JF.out.mono ?_;rintro e w1 ⟨A1,c1,rfl,hr1,hb1⟩;have hbx:=Held.new w1 aj 33;dsimp only) | (refine aO 33 (.tmp 10) (.tmp 38) rfl ?_;refine aF hbx (aW (ZO r s x.x) A1 c1) rfl bW (dL _ _ _) rfl (.tmp 10) (.tmp 38) rfl rfl rfl ?_))
 obtain ⟨hq,hb2⟩:=ah5.new hr1 hbx
 have hbb:=hb1.trans (hb2.mono hb1.size)
 refine HK.out _ _ ?_
 apply HN.out
 exact ⟨hE.below hbb,hq,rfl⟩
theorem aH5 (W0:World) (r:M.Rules) (s:M.State) (x:Sh) (As:Option Addr) (cs:Nat) (HG:Hid (Glob W0)) (HN:Hid (aCj W0 r s x As cs)):aCc W0 r s x As cs:=by
 dsimp only [aCc,PNQ]
 intros
 rename_i W hf
 dsimp only [acV,dQ,Tryz.f9,Option.getD]
 obtain ⟨hE,hq,rfl⟩:=hf
 obtain ⟨hF,B7,B8,B9,A9,c9,rfl,h7,rfl,h8,rfl,h9,hp9⟩:=id hE
 obtain ⟨rfl,rfl,rfl,h3,h4,h5,hs,hx,hfit,hbw⟩:=hF
 have Qb:∀ W',(fun w':World=>Below W.heap.size W w') W'→W'.rangeAt B7 0 ([.string r.game,.int .i64 r.target,.int .i64 r.aY]):=fun W' h=>(h7.below h).range
 have Wu:∀ W',(fun w':World=>Below W.heap.size W w') W'→W'.rangeAt B8 0 (aW s As cs):=fun W' h=>(h8.below h).range
 have hr9:∀ W',(fun w':World=>Below W.heap.size W w') W'→W'.rangeAt B9 0 (au ⟨x.x,A9,c9⟩):=fun W' h=>(h9.below h).range
 apply wp_seq_k
 intro K hK
 have HK:=hide hK
 clear hK
 refine wp_region_held_drew (S:=(fun w':World=>Below W.heap.size W w')) (by kernel_rfl) ?jw (fun hHeld=>?_)
 case jw=>exact (Below.refl _ _).drew
 refine wpAnyH_take (i:=0) (oi:=_) (v:=_) (ga rfl) (by kernel_rfl) (by kernel_rfl) (by kernel_rfl) (fun _ _ _ h=>h) (yieldsIf_load_mid (by rfl) _ _ (by rfl) _ _ (by rfl) _ _ Qb Tryz.underlying25 rfl (by kernel_rfl)) (by assumption) ?_
 try simp only [Act.put,la,lz,ls]
 refine wpAnyH_take (i:=1) (oi:=_) (v:=_) (ga rfl) (by kernel_rfl) (by kernel_rfl) (by kernel_rfl) (fun _ _ _ h=>h) (yieldsIf_load_mid (by rfl) _ _ (by rfl) _ _ (by rfl) _ _ Wu Tryz.underlying42 rfl (by kernel_rfl)) (by assumption) ?_
 try simp only [Act.put,la,lz,ls]
 refine wpAnyH_take (i:=3) (oi:=_) (v:=_) (ga rfl) (by kernel_rfl) (by kernel_rfl) (by kernel_rfl) (fun _ _ _ h=>h) (yieldsIf_load_mid (by rfl) _ _ (by rfl) _ _ (by rfl) _ _ hr9 Tryz.underlying69 rfl (by kernel_rfl)) (by assumption) ?_
 try simp only [Act.put,la,lz,ls]
 refine tr 2 fun K hK=>?_
 go_simp
 (first | (go_at_call 43;refine (ZR _ r s As cs _ (hs.below hHeld)).mono ?_;rintro e w1 ⟨rfl,hb1⟩) | (go_at_call 30;refine (AL _ x.x A9 c9 _ (Reads.below hp9 hHeld)).mono ?_;rintro e w2 ⟨rfl,hb2⟩) | (go_at_call 45;refine (aaZ (fun _=>True) _ _ [M.jf r s,M.cZ x.x] _ (bD.lit _ _ [M.jf r s,M.cZ x.x] (by simp) _ trivial)).mono ?_;rintro e dO ⟨rfl,rfl⟩))
 refine hK.out _ _ ?Tj (fun hHeld=>?_)
 case Tj=>(exact hHeld.trans (hb1.mono hHeld.size))
 clear hK K
 try simp only [Act.put,la,lz,ls]
 refine tr 4 fun K hK=>?_
 go_simp
 (first | (go_at_call 43;refine (ZR _ r s As cs _ (hs.below hHeld)).mono ?_;rintro e w1 ⟨rfl,hb1⟩) | (go_at_call 30;refine (AL _ x.x A9 c9 _ (Reads.below hp9 hHeld)).mono ?_;rintro e w2 ⟨rfl,hb2⟩) | (go_at_call 45;refine (aaZ (fun _=>True) _ _ [M.jf r s,M.cZ x.x] _ (bD.lit _ _ [M.jf r s,M.cZ x.x] (by simp) _ trivial)).mono ?_;rintro e dO ⟨rfl,rfl⟩))
 refine hK.out _ _ ?aGa (fun hHeld=>?_)
 case aGa=>(exact hHeld.trans (hb2.mono hHeld.size))
 clear hK K
 try simp only [Act.put,la,lz,ls]
 refine tr 5 fun K hK=>?_
 go_simp
 refine hK.out _ _ ?LU (fun hHeld=>?_)
 case LU=>(exact Below.alloc hHeld hHeld.size _)
 clear hK K
 try simp only [Act.put,la,lz,ls]
 refine tr 6 fun K hK=>?_
 go_simp
 (first | (go_at_call 43;refine (ZR _ r s As cs _ (hs.below hHeld)).mono ?_;rintro e w1 ⟨rfl,hb1⟩) | (go_at_call 30;refine (AL _ x.x A9 c9 _ (Reads.below hp9 hHeld)).mono ?_;rintro e w2 ⟨rfl,hb2⟩) | (go_at_call 45;refine (aaZ (fun _=>True) _ _ [M.jf r s,M.cZ x.x] _ (bD.lit _ _ [M.jf r s,M.cZ x.x] (by simp) _ trivial)).mono ?_;rintro e dO ⟨rfl,rfl⟩))
 refine hK.out _ _ ?Tn (fun hHeld=>?_)
 case Tn=>(exact hHeld)
 clear hK K
 try simp only [Act.put,la,lz,ls]
 refine tk 7 ?_
 refine wpAnyH_done (by kernel_rfl) ?_ _
 refine HK.out _ _ ?_
 apply HN.out
 exact ⟨hE.below hHeld,⟨hq.below hHeld,rfl⟩,rfl⟩
theorem aIc (W0:World) (r:M.Rules) (s:M.State) (x:Sh) (As:Option Addr) (cs:Nat) (HG:Hid (Glob W0)) (HN:Hid (awC W0 r s x As cs)):aCj W0 r s x As cs:=by
 dsimp only [aCj,PNQ]
 intros
 rename_i W hf
 dsimp only [acV,dQ,Tryz.f9,Option.getD]
 obtain ⟨hE,⟨hq,rfl⟩,rfl⟩:=hf
 obtain ⟨hF,B7,B8,B9,A9,c9,rfl,h7,rfl,h8,rfl,h9,hp9⟩:=id hE
 obtain ⟨rfl,rfl,rfl,h3,h4,h5,hs,hx,hfit,hbw⟩:=hF
 have hz:=Held.new W aj 42
 have hba:=(Below.refl W.heap.size W).alloc (Nat.le_refl _) (.cells aj.toArray 42)
 have h7a:=h7.below hba
 have h8a:=h8.below hba
 have h9a:=h9.below hba
 have aHb:B7≠W.heap.size:=Nat.ne_of_lt h7.lt
 apply wp_seq_k
 intro K hK
 have HK:=hide hK
 clear hK
 go_wp2
 refine HK.out _ _ ?_
 apply wp_seq_k
 intro Ka hKa
 have HKa:=hide hKa
 clear hKa
 apply wp_seq_k
 intro Kb hKb
 have HKb:=hide hKb
 clear hKb
 obtain ⟨e2,he2⟩:∃ E,aU [M.jf r s,M.cZ x.x]=E:=⟨_,rfl⟩
 have HE2:=hide he2
 rw [he2]
 clear he2
 by_cases q2:e2=0
 rotate_left
 · have q2':(e2 == 0)=false:=by simpa using q2
   have hpb:acH r s x.x=e2:=by unfold acH;rw [HE2.out,if_pos q2]
   have hpn:=axM (r:=r) (s:=s) (x:=x.x) (by rw [hpb];exact q2)
   rw [hpb] at hpn
   have HPN:=hide hpn
   clear q2 hpb hpn
   go_wp2
   refine HKb.out _ _ ?_
   go_wp2
   refine HKa.out _ _ ?_
   apply wp_seq_k
   intro Kc hKc
   have HKc:=hide hKc
   clear hKc
   apply wp_seq_k
   intro Kd hKd
   have HKd:=hide hKd
   clear hKd
   go_wp2
   refine HKd.out _ _ ?_
   go_wp2
   refine HKc.out _ _ ?_
   apply HN.out
   exact ⟨⟨hq.below hba,rfl⟩,by rw [HPN.out.1],by rw [HPN.out.2];exact ⟨_,none,0,rfl,hz,bD.zero _⟩,VY hbw hba⟩
 subst q2
 obtain ⟨lg,Vb⟩:∃ l,M.legal r s x.x=l:=⟨_,rfl⟩
 have hcl:=ajo _ r s x.x As A9 cs c9 _ (hs.below hba) (Reads.below hp9 hba)
 rw [Vb] at hcl
 have JF:=hide hcl
 have hpb:acH r s x.x=if lg≠0 then 18 else 0:=by unfold acH;rw [if_neg (by simp [HE2.out]),Vb]
 clear hcl Vb
 by_cases q3:lg=0
 rotate_left
 · have q3':(lg != 0)=true:=by simpa using q3
   rw [if_pos q3] at hpb
   have hpn:=axM (r:=r) (s:=s) (x:=x.x) (by rw [hpb];decide)
   rw [hpb] at hpn
   have HPN:=hide hpn
   clear q3 hpb hpn
   go_wp2_with (first | (refine aN 25 (.tmp 7) rfl ?_;refine aG (h7a) Tryz.underlying25 rfl Zp rfl (.tmp 7) rfl rfl ?_) | (refine aN 25 (.tmp 7) rfl ?_;refine su (h7a) Tryz.underlying25 rfl Zp rfl (.tmp 7) rfl rfl ?_) | (refine vg 25 (.tmp 7) rfl ?_;refine sD (h7a) Tryz.underlying25 rfl Zp (.tmp 7) rfl rfl ?_) | (refine aN 42 (.tmp 8) rfl ?_;refine aG (h8a) Tryz.underlying42 rfl Zh rfl (.tmp 8) rfl rfl ?_) | (refine aN 42 (.tmp 8) rfl ?_;refine su (h8a) Tryz.underlying42 rfl Zh rfl (.tmp 8) rfl rfl ?_) | (refine vg 42 (.tmp 8) rfl ?_;refine sD (h8a) Tryz.underlying42 rfl Zh (.tmp 8) rfl rfl ?_) | (refine aN 69 (.tmp 9) rfl ?_;refine aG (h9a) Tryz.underlying69 rfl Zj rfl (.tmp 9) rfl rfl ?_) | (refine aN 69 (.tmp 9) rfl ?_;refine su (h9a) Tryz.underlying69 rfl Zj rfl (.tmp 9) rfl rfl ?_) | (refine vg 69 (.tmp 9) rfl ?_;refine sD (h9a) Tryz.underlying69 rfl Zj (.tmp 9) rfl rfl ?_) | (go_at_call 46;refine JF.out.mono ?_;rintro e w1 ⟨rfl,hb1⟩;have h7b:=h7a.below hb1;have h8b:=h8a.below hb1;have h9b:=h9a.below hb1;have hz1:=hz.below hb1;dsimp only))
   refine HKb.out _ _ ?_
   go_wp2
   refine HKa.out _ _ ?_
   apply wp_seq_k
   intro Kc hKc
   have HKc:=hide hKc
   clear hKc
   apply wp_seq_k
   intro Kd hKd
   have HKd:=hide hKd
   clear hKd
   go_wp2
   refine HKd.out _ _ ?_
   go_wp2
   refine HKc.out _ _ ?_
   apply HN.out
   exact ⟨⟨(hq.below hba).below hb1,rfl⟩,by rw [HPN.out.1],by rw [HPN.out.2];exact ⟨_,none,0,rfl,hz1,bD.zero _⟩,VY (VY hbw hba) hb1⟩
 subst q3
 rw [if_neg (by simp)] at hpb
 obtain ⟨hok,hne,hcn⟩:=aAI (r:=r) (s:=s) (x:=x.x) hpb
 have hnx:=fun W' h h'=>ak1 (fun b=>b<W.heap.size) r s x.x As A9 cs c9 W' h h' hok
 obtain ⟨tn,htn⟩:∃ q,M.next r s x.x=q:=⟨_,rfl⟩
 simp only [htn] at hnx
 rw [htn] at hne hcn
 have VP:=hide hnx
 obtain ⟨nu,hnu⟩:∃ q,M.iP r tn=q:=⟨_,rfl⟩
 have h03:=M.afY (r:=r) (s:=tn)
 rw [hnu] at hne hcn h03
 have HCN:=hide hcn
 have HTN:=hide htn
 have HNE:=hide hne
 clear hpb hok hnx hcn htn hnu hne
 go_wp2_with (first | (refine aN 25 (.tmp 7) rfl ?_;refine aG (h7a) Tryz.underlying25 rfl Zp rfl (.tmp 7) rfl rfl ?_) | (refine aN 25 (.tmp 7) rfl ?_;refine su (h7a) Tryz.underlying25 rfl Zp rfl (.tmp 7) rfl rfl ?_) | (refine vg 25 (.tmp 7) rfl ?_;refine sD (h7a) Tryz.underlying25 rfl Zp (.tmp 7) rfl rfl ?_) | (refine aN 42 (.tmp 8) rfl ?_;refine aG (h8a) Tryz.underlying42 rfl Zh rfl (.tmp 8) rfl rfl ?_) | (refine aN 42 (.tmp 8) rfl ?_;refine su (h8a) Tryz.underlying42 rfl Zh rfl (.tmp 8) rfl rfl ?_) | (refine vg 42 (.tmp 8) rfl ?_;refine sD (h8a) Tryz.underlying42 rfl Zh (.tmp 8) rfl rfl ?_) | (refine aN 69 (.tmp 9) rfl ?_;refine aG (h9a) Tryz.underlying69 rfl Zj rfl (.tmp 9) rfl rfl ?_) | (refine aN 69 (.tmp 9) rfl ?_;refine su (h9a) Tryz.underlying69 rfl Zj rfl (.tmp 9) rfl rfl ?_) | (refine vg 69 (.tmp 9) rfl ?_;refine sD (h9a) Tryz.underlying69 rfl Zj (.tmp 9) rfl rfl ?_) | (go_at_call 46;refine JF.out.mono ?_;rintro e w1 ⟨rfl,hb1⟩;have h7b:=h7a.below hb1;have h8b:=h8a.below hb1;have h9b:=h9a.below hb1;have hz1:=hz.below hb1;dsimp only))
 refine HKb.out _ _ ?_
 go_wp2
 refine HKa.out _ _ ?_
 apply wp_seq_k
 intro Kc hKc
 have HKc:=hide hKc
 clear hKc
 apply wp_seq_k
 intro Kd hKd
 have HKd:=hide hKd
 clear hKd
 go_wp2
 refine HKd.out _ _ ?_
 refine wp_cond_true rfl ?_
 apply wp_seq_k
 intro Ke hKe
 have HKe:=hide hKe
 clear hKe
 go_wp2_with (first | (refine aN 25 (.tmp 7) rfl ?_;refine aG (h7b) Tryz.underlying25 rfl Zp rfl (.tmp 7) rfl rfl ?_) | (refine aN 25 (.tmp 7) rfl ?_;refine su (h7b) Tryz.underlying25 rfl Zp rfl (.tmp 7) rfl rfl ?_) | (refine vg 25 (.tmp 7) rfl ?_;refine sD (h7b) Tryz.underlying25 rfl Zp (.tmp 7) rfl rfl ?_) | (refine aN 42 (.tmp 8) rfl ?_;refine aG (h8b) Tryz.underlying42 rfl Zh rfl (.tmp 8) rfl rfl ?_) | (refine aN 42 (.tmp 8) rfl ?_;refine su (h8b) Tryz.underlying42 rfl Zh rfl (.tmp 8) rfl rfl ?_) | (refine vg 42 (.tmp 8) rfl ?_;refine sD (h8b) Tryz.underlying42 rfl Zh (.tmp 8) rfl rfl ?_) | (refine aN 69 (.tmp 9) rfl ?_;refine aG (h9b) Tryz.underlying69 rfl Zj rfl (.tmp 9) rfl rfl ?_) | (refine aN 69 (.tmp 9) rfl ?_;refine su (h9b) Tryz.underlying69 rfl Zj rfl (.tmp 9) rfl rfl ?_) | (refine vg 69 (.tmp 9) rfl ?_;refine sD (h9b) Tryz.underlying69 rfl Zj (.tmp 9) rfl rfl ?_) | (go_at_call 47;refine (VP.out _ (((bD.more hs (fun b hl _=>hl)).below hba).below hb1) (Reads.below (Reads.below (Reads.more hp9 (fun b hl _=>hl)) hba) hb1)).mono ?_;rintro e w2 ⟨A1,c1,rfl,hr2,hb2⟩;have hz2:=hz1.below hb2;dsimp only) | (refine aO 42 (.tmp 13) (.tmp 61) rfl ?_;refine aF hz2 (aW tn A1 c1) rfl Zh (dL _ _ _) rfl (.tmp 13) (.tmp 61) rfl rfl rfl ?_))
 refine HKe.out _ _ ?_
 obtain ⟨w3,hw3⟩:∃ q,w2.setCells W.heap.size 0 (aW tn A1 c1)=q:=⟨_,rfl⟩
 have hz3:Held w3 W.heap.size (aW tn A1 c1) 42:=hw3 ▸ hz2.whole (aW tn A1 c1) rfl
 have h7c:Held w3 B7 ([.string r.game,.int .i64 r.target,.int .i64 r.aY]) 25:=hw3 ▸ Held.others aHb (aW tn A1 c1) 0 w2 (h7b.below hb2)
 have hr3:bD w3 (fun b=>b≠W.heap.size) A1 c1 tn.ay:=by
  rw [← hw3]
  refine bD.sets (S:=fun b=>b≠W.heap.size) (g:=W.heap.size) (fun h=>h rfl) (aW tn A1 c1) 0 _ (bD.more hr2 (fun b hl h=>?_))
  rcases h with h | h
  · exact Nat.ne_of_lt h.1
  · have hq:=hb1.size
    simp at hq
    omega
 have hbY:Below W.heap.size W w3:=by
  rw [← hw3]
  exact below_setCells _ (Nat.le_refl _) _ _ _ _ ((hba.trans (hb1.mono hba.size)).trans (hb2.mono (Nat.le_trans hba.size hb1.size)))
 rw [hw3]
 clear hw3 hz2 hr2 hb2 hz1 hb1 h7b h8b h9b hz h7a h8a h9a hba h7 h8 h9 h3 h4 h5 hs hx hp9 VP JF
 apply wp_seq_k
 intro Kf hKf
 have HKf:=hide hKf
 clear hKf
 go_wp2_with (first | (refine aN 25 (.tmp 7) rfl ?_;refine aG (h7c) Tryz.underlying25 rfl Zp rfl (.tmp 7) rfl rfl ?_) | (refine aN 42 (.tmp 13) rfl ?_;refine aG (hz3) Tryz.underlying42 rfl Zh rfl (.tmp 13) rfl rfl ?_) | (go_at_call 43;refine (ZR _ r tn A1 c1 _ hr3).mono ?_;rw [HCN.out];rintro e w4 ⟨rfl,hb4⟩;have hz4:=hz3.below hb4;dsimp only))
 refine HKf.out _ _ ?_
 have hbX:Below W.heap.size W w4:=hbY.trans (hb4.mono hbY.size)
 rcases h03 with h0 | h0
 · subst h0
   have hns:ZO r s x.x=tn:=by unfold ZO;rw [if_pos HNE.out,HTN.out]
   have VN:=hide hns
   clear hns
   refine wp_cond_false rfl ?_
   go_wp2
   refine HKc.out _ _ ?_
   apply HN.out
   exact ⟨⟨hq.below hbX,rfl⟩,by rw [HNE.out],by rw [VN.out];exact ⟨_,A1,c1,rfl,hz4,bD.more (hr3.below hb4) (fun _ _ _=>trivial)⟩,VY hbw hbX⟩
 · subst h0
   have hns:ZO r s x.x=M.zero:=by unfold ZO;rw [if_neg (by rw [HNE.out];decide)]
   have VN:=hide hns
   clear hns
   refine wp_cond_true rfl ?_
   go_wp2_with (first | (refine aO 42 (.tmp 13) (.tmp 66) rfl ?_;refine aF hz4 aj rfl Zh (dL M.zero none 0) rfl (.tmp 13) (.tmp 66) rfl rfl rfl ?_))
   refine HKc.out _ _ ?_
   apply HN.out
   have XL:Below W.heap.size W (w4.setCells W.heap.size 0 aj):=below_setCells _ (Nat.le_refl _) _ _ _ _ hbX
   exact ⟨⟨hq.below XL,rfl⟩,by rw [HNE.out],by rw [VN.out];exact ⟨_,none,0,rfl,hz4.whole aj rfl,bD.zero _⟩,VY hbw XL⟩
theorem aF3 (W0:World) (r:M.Rules) (s:M.State) (x:Sh) (As:Option Addr) (cs:Nat) (HG:Hid (Glob W0)):awC W0 r s x As cs:=by
 dsimp only [awC,PNQ]
 intros
 rename_i W hf
 dsimp only [acV,dQ,Tryz.f9,Option.getD]
 obtain ⟨⟨hq,rfl⟩,rfl,hz,hbw⟩:=hf
 obtain ⟨tn,htn⟩:∃ q,ZO r s x.x=q:=⟨_,rfl⟩
 obtain ⟨ne,hne⟩:∃ q,ZN r s x.x=q:=⟨_,rfl⟩
 rw [htn] at hq hz
 rw [hne]
 obtain ⟨B10,Yv,c10,rfl,h10,r10⟩:=hq
 obtain ⟨B13,A13,c13,rfl,h13,r13⟩:=hz
 have HG9:=hide (HG.out.below hbw)
 have q1:(ne == ne)=true:=beq_self_eq_true _
 clear htn hne
 apply wp_seq_k
 intro K hK
 have HK:=hide hK
 clear hK
 go_wp2_with (first | (refine aN 33 (.tmp 10) rfl ?_;refine aG (h10) Tryz.underlying33 rfl bW rfl (.tmp 10) rfl rfl ?_) | (refine aN 33 (.tmp 10) rfl ?_;refine su (h10) Tryz.underlying33 rfl bW rfl (.tmp 10) rfl rfl ?_) | (refine vg 33 (.tmp 10) rfl ?_;refine sD (h10) Tryz.underlying33 rfl bW (.tmp 10) rfl rfl ?_) | (refine aN 42 (.tmp 13) rfl ?_;refine aG (h13) Tryz.underlying42 rfl Zh rfl (.tmp 13) rfl rfl ?_) | (refine aN 42 (.tmp 13) rfl ?_;refine su (h13) Tryz.underlying42 rfl Zh rfl (.tmp 13) rfl rfl ?_) | (refine vg 42 (.tmp 13) rfl ?_;refine sD (h13) Tryz.underlying42 rfl Zh (.tmp 13) rfl rfl ?_) | (go_at_call 23;refine (aj6 _ _ tn tn Yv A13 c10 c13 _ r10 r13).mono ?_;rw [M.State.eq_iff.2 rfl];rintro e w2 ⟨rfl,hb2⟩;have HG9:=hide (HG9.out.below hb2);dsimp only) | (go_at_call 17;refine (QJ _ HG9.out).mono ?_;rintro e w9 ⟨rfl,U6⟩;dsimp only))
 refine HK.out _ _ ?_
 go_wp2
 go_ret
 exact ⟨rfl,VY (VY hbw hb2) U6⟩
theorem axq (W0:World) (hg:Glob W0) (r:M.Rules) (s:M.State) (As:Option Addr) (cs:Nat) (x:Sh) (hs:bD W0 (fun _=>True) As cs s.ay) (hf:awJ W0 x):
 Calls Tryz.prog 9 #[jM r,wF s As cs,iO x.x x.a x.c] W0 fun e w'=>e= .returned (.bool true)∧Below W0.heap.size W0 w':=by
 have HG:=hide hg
 have hall:=aHK W0 r s x As cs HG (hide (aHR W0 r s x As cs HG (hide (aHY W0 r s x As cs HG (hide (aH5 W0 r s x As cs HG (hide (aIc W0 r s x As cs HG (hide (aF3 W0 r s x As cs HG))))))))))
 have aBD:=hide hall
 clear hall
 go_enter Tryz.func9,Tryz.ntmps9
 apply wp_seq_k
 intro K hK
 have HK:=hide hK
 clear hK
 have hB:=(((bU.nil W0).new (by simp) ([.string r.game,.int .i64 r.target,.int .i64 r.aY]) 23).new (by simp) (aW s As cs) 33).new (by simp) (au x) 66
 go_wp2
 refine HK.out _ _ ?_
 have HA:=aBD.out
 apply HA
 exact ⟨rfl,rfl,rfl,hB.bf rfl,hB.get 1 rfl,hB.get 2 rfl,hs.below hB.bw,Reads.below hf.1 hB.bw,hf.2,hB.bw⟩
end Go.Proofs.YtelpepbpdojikaaGreatDoor
