/- Parts of the proofs about chapter 5 (pool), joined by program. -/
import Derived.Test.YtelpepbpdojikaaGreatDoorKg31
import Derived.Test.YtelpepbpdojikaaGreatDoorKq10
import Derived.Test.YtelpepbpdojikaaGreatDoorKq7
import Derived.Test.YtelpepbpdojikaaGreatDoorKu1
import Derived.Test.YtelpepbpdojikaaGreatDoorKu6
import Derived.Test.YtelpepbpdojikaaGreatDoorKu7
set_option maxHeartbeats 8000000
set_option maxRecDepth 100000
set_option linter.unusedVariables false
set_option linter.unusedSimpArgs false
namespace Go.Proofs.YtelpepbpdojikaaGreatDoor
open Go.RowKit
structure amI (W0:World) (r:M.Rules) (l:List Sh) (Al:Option Addr) (cl:Nat) (v1 v2:Value) (W:World):Prop where
 e1:v1= .slice Al l.length cl
 e2:v2=ptr W0.heap.size
 h2:Held W W0.heap.size [.string r.game,.int .i64 r.target,.int .i64 r.aY] 23
 rl:wG W (fun _=>True) Al cl l
 pl:∀ e∈l,e.x.aA.length*16≤140737488355328
 ll:l.length*80≤140737488355328
 bw:Below W0.heap.size W0 W
theorem amI.below {W0 W W':World} {r:M.Rules} {l:List Sh} {Al:Option Addr} {cl:Nat} {v1 v2:Value} (h:amI W0 r l Al cl v1 v2 W) (hb:Below W.heap.size W W'):amI W0 r l Al cl v1 v2 W':=
 ⟨h.e1,h.e2,h.h2.below hb,h.rl.below hb,h.pl,h.ll,VY h.bw hb⟩
def ahC (W0:World) (r:M.Rules) (l:List Sh) (Al:Option Addr) (cl:Nat) (v1 v2 v5 v6:Value) (W:World):Prop:=
 amI W0 r l Al cl v1 v2 W∧∃ B5 A6 c6 l',v5=ptr B5∧Held W B5 [.string r.game,.int .i64 r.target,.int .i64 r.aY] 25∧v6= .slice A6 l'.length c6∧plain l'=plain l∧wG W (fun _=>True) A6 c6 l'
theorem ahC.below {W0 W W':World} {r:M.Rules} {l:List Sh} {Al:Option Addr} {cl:Nat} {v1 v2 v5 v6:Value} (h:ahC W0 r l Al cl v1 v2 v5 v6 W) (hb:Below W.heap.size W W'):ahC W0 r l Al cl v1 v2 v5 v6 W':=by
 obtain ⟨h1,B5,A6,c6,l',e5,h5,e6,hp,h6⟩:=h
 exact ⟨h1.below hb,B5,A6,c6,l',e5,h5.below hb,e6,hp,h6.below hb⟩
def amo (s:M.State) (t:TypeId) (v:Value) (W:World):Prop:=∃ B A c,v=ptr B∧Held W B (aW s A c) t∧bD W (fun _=>True) A c s.ay
theorem amo.below {s:M.State} {t:TypeId} {v:Value} {W W':World} (h:amo s t v W) (hb:Below W.heap.size W W'):amo s t v W':=by
 obtain ⟨B,A,c,h1,h2,h3⟩:=h
 exact ⟨B,A,c,h1,h2.below hb,h3.below hb⟩
theorem amo.new {s:M.State} {t:TypeId} {A:Option Addr} {c:Nat} {S:Nat→Prop} {w1:World} (hr:bD w1 S A c s.ay) (hbx:Held (w1.alloc (.cells aj.toArray t)) w1.heap.size aj t):
 amo s t (ptr w1.heap.size) ((w1.alloc (.cells aj.toArray t)).setCells w1.heap.size 0 (aW s A c))∧Below w1.heap.size w1 ((w1.alloc (.cells aj.toArray t)).setCells w1.heap.size 0 (aW s A c)):=by
 have hb:Below w1.heap.size w1 ((w1.alloc (.cells aj.toArray t)).setCells w1.heap.size 0 (aW s A c)):=below_setCells _ (Nat.le_refl _) _ _ _ _ ((Below.refl _ _).alloc (Nat.le_refl _) _)
 exact ⟨⟨w1.heap.size,A,c,rfl,hbx.whole _ rfl,bD.more (hr.below hb) (fun _ _ _=>trivial)⟩,hb⟩
theorem aad:(Tryz.prog.info? 25).map (·.size)=some 3:=by kernel_rfl
theorem wG.arl {w6 X:World} {S:Nat→Prop} {A:Option Addr} {c g o:Nat} {l:List Sh} {v:List Value} (h:wG w6 S A c l) (hb:Below w6.heap.size w6 X) (hg:∀ b,b<w6.heap.size→S b→b≠g):wG (X.setCells g o v) S A c l:=
 h.keep (by rw [setCells_size];exact hb.size) fun b i hs hl=>(kN _ _ _ _ (hg b hl hs)).trans (hb.cell (p:=⟨b,i,none⟩) hl)
theorem anz {a b:Int} (h:aU [a,b]=0):a=0∧b=0:=by
 unfold aU at h
 split at h
 · next h1=>exact absurd h h1
 · next h1=>
   have ha:a=0:=by simpa using h1
   refine ⟨ha,?_⟩
   unfold aU at h
   split at h
   · next h2=>exact absurd h h2
   · next h2=>simpa using h2
theorem auJ {r:M.Rules} {l:List M.aI} {k:Nat} (hr:M.aH r=0) (hl:M.je l=0) (hk:k<l.length) (hg:M.legal r (M.TS r l k) l[k]=0):ZL r (M.TS r l k) l[k]:=
 ⟨((M.adi l).1 hl).2 _ (List.getElem_mem hk),hr,aqE hr hl k,M.lawful hg⟩
structure adx (S:Nat→Prop) (r:M.Rules) (pl:List M.aI) (w:World) (B5 k m:Nat) (L:List StE) (A:Option Addr) (c:Nat) (s:M.State) (As:Option Addr) (cs:Nat) (W:World):Prop where
 lst:StL r pl k L
 hr:Held W w.heap.size ([.string r.game,.int .i64 r.target,.int .i64 r.aY]) 25
 hs:Held W B5 (aW s As cs) 42
 rs:bD W (fun b=>(fun b=>((S b∧b<w.heap.size)∨w.heap.size+1≤b)∧b≠B5) b∧(Value.slice A L.length c).ownBlock≠some b) As cs s.ay
 row:Zo 42 (B5+1) (fun b=>((S b∧b<w.heap.size)∨w.heap.size+1≤b)∧b≠B5) L A c W
 lt:w.heap.size<B5
 hse:s=M.TS r pl m
 bw:Below w.heap.size w W
theorem adx.below {S:Nat→Prop} {r:M.Rules} {pl:List M.aI} {w:World} {B5 k m:Nat} {L:List StE} {A:Option Addr} {c:Nat} {s:M.State} {As:Option Addr} {cs:Nat} {W W':World} (h:adx S r pl w B5 k m L A c s As cs W) (hb:Below W.heap.size W W'):adx S r pl w B5 k m L A c s As cs W':=
 ⟨h.lst,h.hr.below hb,h.hs.below hb,h.rs.below hb,h.row.below hb,h.lt,h.hse,VY h.bw hb⟩
theorem adx.drew {S:Nat→Prop} {r:M.Rules} {pl:List M.aI} {w:World} {B5 k m:Nat} {L:List StE} {A:Option Addr} {c:Nat} {s:M.State} {As:Option Addr} {cs:Nat} {W:World} (h:adx S r pl w B5 k m L A c s As cs W):adx S r pl w B5 k m L A c s As cs W.drew:=
 ⟨h.lst,h.hr,h.hs,h.rs,h.row.drew,h.lt,h.hse,h.bw.drew⟩
theorem adx.set {S:Nat→Prop} {r:M.Rules} {pl:List M.aI} {w:World} {B5 k m m':Nat} {L:List StE} {A:Option Addr} {c:Nat} {s t:M.State} {As A3:Option Addr} {cs c3:Nat} {W W3:World} (h:adx S r pl w B5 k m L A c s As cs W) (hb:Below W.heap.size W W3)
 (hr:bD W3 (fun b=>((fun b=>(fun b=>((S b∧b<w.heap.size)∨w.heap.size+1≤b)∧b≠B5) b∧(Value.slice A L.length c).ownBlock≠some b) b∧b<W.heap.size)∨W.heap.size≤b) A3 c3 t.ay) (ht:t=M.TS r pl m'):Held W3 B5 (aW s As cs) 42∧adx S r pl w B5 k m' L A c t A3 c3 (W3.setCells B5 0 (aW t A3 c3)):=by
 have h5:=h.hs.lt
 have hl:=h.lt
 have hs:=hb.size
 refine ⟨h.hs.below hb,h.lst,Held.others (by omega) _ _ _ (h.hr.below hb),(h.hs.below hb).whole _ rfl,bD.sets (fun hx=>hx.1.2 rfl) _ _ _ (bD.more hr (fun b _ hx=>?_)),(h.row.below hb).sets (by omega) (fun hx=>hx.2 rfl) _ _,h.lt,ht,below_setCells _ (by omega) _ _ _ _ (VY h.bw hb)⟩
 rcases hx with hx | hx
 · exact hx.1
 · exact ⟨⟨.inr (by omega),by omega⟩,fun e=>by have:=ar0 h.row.own e;omega⟩
noncomputable def akn (n:Nat):Code:=dQ n ((Tryz.f67).body.getD .skip)
@[reducible] def atV (S:Nat→Prop) (r:M.Rules) (l:List Sh) (A0:Option Addr) (c0:Nat) (w:World) (F:Value→Value→Value→Value→World→Prop) (n:Nat):Prop:=∀ (z0 z1 z2 z3 z4 z5 z6 z7 z8 z9 z10 z11 z12 z13 kD kK kF z17 kL jQ z20 z21 z22 z23 z24 z25 z26 z27 z28 z29 z30 z31 z32 z33 z34 z35 z36 z37:Value) (W:World),F z1 z2 z5 z6 W→(akn n).wp Tryz.prog (bodyPost Tryz.prog Tryz.f67 (fun e w'=>∃ L A' c',e= .returned (.slice A' L.length c')∧StL r (plain l) l.length L∧RdT w' (fun b=>(S b∧b<w.heap.size)∨w.heap.size≤b) A' c' L∧Below w.heap.size w w')) {tmps:= #[z0,z1,z2,z3,z4,z5,z6,z7,z8,z9,z10,z11,z12,z13,kD,kK,kF,z17,kL,jQ,z20,z21,z22,z23,z24,z25,z26,z27,z28,z29,z30,z31,z32,z33,z34,z35,z36,z37],defers:=[] } W
@[reducible] def aqD (S:Nat→Prop) (r:M.Rules) (l:List Sh) (A0:Option Addr) (c0:Nat) (w:World):Prop:=atV S r l A0 c0 w (fun z1 z2 z5 z6 W=>z1= .slice A0 l.length c0∧z2=ptr w.heap.size∧∃ B5 L A c s As cs,z5=ptr B5∧z6= .slice A (L:List StE).length c∧adx S r (plain l) w B5 0 0 L A c s As cs W) 3
theorem avE (S:Nat→Prop) (r:M.Rules) (l:List Sh) (A0:Option Addr) (c0:Nat) (w:World) (HP:Hid (wG w (fun b=>S b∧b<w.heap.size) A0 c0 l)) (wZ:Hid (M.aH r=0∧M.je (plain l)=0)):aqD S r l A0 c0 w:=by
 dsimp only [aqD,atV]
 intro z0 _ _ z3 z4 _ _ _ z8 z9 z10 z11 z12 z13 kD kK kF z17 kL jQ z20 z21 z22 z23 z24 z25 z26 z27 z28 z29 z30 z31 z32 z33 z34 z35 z36 z37 W hf
 dsimp only [akn,dQ,Tryz.f67,Option.getD]
 obtain ⟨rfl,rfl,B5,L0,Aa,ca,s0,As0,cs0,rfl,rfl,hI⟩:=hf
 have hp:=HP.out
 obtain ⟨b1,b2,b3⟩:=hp.bd
 have hn:=((M.adi _).1 wZ.out.2).1
 rw [eF] at hn
 obtain ⟨i0,hi0,hz0,hz1,hz2⟩:=info_parts alf
 apply wp_seq_k
 intro K1 hK1
 have Q9:=hide hK1
 clear hK1
 apply wp_seq_k
 intro K2 hK2
 have PD:=hide hK2
 clear hK2
 go_wp2
 refine PD.out _ _ ?_
 go_wp2
 go_loopw [6,7] (fun v i wr=>∃ (k:Nat) (L:List StE) (A:Option Addr) (c:Nat) (s:M.State) (As:Option Addr) (cs:Nat),k≤l.length∧i= .int .i64 k∧v= .slice A L.length c∧adx S r (plain l) w B5 k k L A c s As cs wr) (fun _ i=>fun _=>l.length - (intOf i).toNat)
 case atStart=>exact ⟨0,_,_,_,_,_,_,Nat.zero_le _,rfl,rfl,hI⟩
 case round=>
  clear hI
  obtain ⟨k,L,A,c,s,As,cs,hk,rfl,rfl,hI⟩:=hrel
  by_cases hlt:k<l.length
  · obtain ⟨b,o,rfl,hSb,hbl,hcs⟩:=Reads.at_ (hp.below hI.bw).1 (by omega)
    have h00:wr.rangeAt b (o+k*7) (au l[k]):=fun j v hj=>by
     have hj7:j<7:=(List.getElem?_eq_some_iff.1 hj).1
     rw [Nat.add_assoc]
     exact hcs _ _ ((jI l k hlt j hj7).trans hj)
    have hpo:=(hp.below hI.bw).aA k hlt
    have hNX:=fun hg=>auJ (r:=r) (l:=plain l) (k:=k) wZ.out.1 wZ.out.2 (by rw [eF];exact hlt) hg
    rw [← hI.hse,Iu l k hlt] at hNX
    have hst1:=aoe (r:=r) (l:=plain l) (k:=k) (by rw [eF];exact hlt)
    rw [← hI.hse,Iu l k hlt] at hst1
    obtain ⟨e,he⟩:∃ q,l[k]=q:=⟨_,rfl⟩
    rw [he] at h00 hpo hNX hst1
    have hLE:=fun W' (h:(fun w':World=>Below wr.heap.size wr w') W')=>ael (fun _=>True) r s e.x As e.a cs e.c W' ((bD.more hI.rs (fun _ _ _=>trivial)).below h) (Reads.below (Reads.more hpo (fun _ _ _=>trivial)) h)
    have QH:=hide hLE
    have atG:=hide hst1
    have VP:=hide hNX
    have UC:=hide hpo
    have hr0:∀ W',(fun w':World=>Below wr.heap.size wr w') W'→W'.rangeAt w.heap.size 0 ([.string r.game,.int .i64 r.target,.int .i64 r.aY]):=fun W' h=>(hI.hr.below h).range
    have hr1:∀ W',(fun w':World=>Below wr.heap.size wr w') W'→W'.rangeAt B5 0 (aW s As cs):=fun W' h=>(hI.hs.below h).range
    have SC:∀ W',(fun w':World=>Below wr.heap.size wr w') W'→W'.rangeAt b (o+k*7) (au e):=fun W' h j v hj=>(h.cell (p:=⟨b,o+k*7+j,none⟩) hbl).trans (h00 j v hj)
    have i1:(0:Int)≤(k:Int):=by omega
    have i2:(k:Int)<(l.length:Int):=by omega
    clear hLE hst1 hNX he hcs hp hpo
    have avL:=hide h00
    clear h00
    go_wp2
    rename_i K8 hK8 KC hKC
    have J:∀ (s2:M.State) (As2:Option Addr) (cs2:Nat) (z12 z13 kD kK kF z17 kL jQ z20 z21 z22 z23 z24 z25 z26 z27 z28 z29 z30 z31 z32 z33 z34 z35 z36:Value) (wx:World),(adx S r (plain l) w B5 k (k+1) L A c s2 As2 cs2 wx)→K8 {tmps:= #[z0,.slice (some ⟨b,o,none⟩) l.length c0,ptr w.heap.size,z3,z4,ptr B5,.slice A L.length c,.int .i64 (k:Int),z8,z9,z10,z11,z12,z13,kD,kK,kF,z17,kL,jQ,z20,z21,z22,z23,z24,z25,z26,z27,z28,z29,z30,z31,z32,z33,z34,z35,z36,z37],defers:=[] } wx:=by
     intro s2 As2 cs2 z12 z13 kD kK kF z17 kL jQ z20 z21 z22 z23 z24 z25 z26 z27 z28 z29 z30 z31 z32 z33 z34 z35 z36 wx hrel
     refine hK8 _ _ ?_
     try dsimp only
     have hI:=hrel
     have hsx:Held wx B5 [.int .i64 s2.turn,.bool s2.brk,.bool s2.hand,.bool s2.push,.bool s2.pushed,.int .i64 s2.group,.slice As2 s2.ay.length cs2,.int .i64 s2.s0,.int .i64 s2.s1,.int .i64 s2.f0,.int .i64 s2.f1,.int .i64 s2.run,.int .i64 s2.aZ,.bool s2.over,.int .i64 s2.bC] 42:=hI.hs
     have hlL:=hI.lst.len
     have hltx:=hI.hs.lt
     have HLL:=hide hlL
     have hL1:L.length≤1001:=by omega
     clear hlL
     go_wp2_with (first | (refine aN 42 (.tmp 5) rfl ?_;refine aG (hsx) Tryz.underlying42 rfl Zc rfl (.tmp 5) rfl rfl ?_) | (at_builtin;refine wpList_append_lies _ rfl _ _ _ rfl (B5+1) 42 i0 (.agg aj.toArray) 15 112 Tryz.underlying135 hi0 hz0 hz1 hz2 rfl (by omega) _ _ _ rfl (hI.row.own.alloc _) ⟨wx.heap.size,0,none⟩ 1 1 [.int .i64 s2.turn,.bool s2.brk,.bool s2.hand,.bool s2.push,.bool s2.pushed,.int .i64 s2.group,.slice As2 s2.ay.length cs2,.int .i64 s2.s0,.int .i64 s2.s1,.int .i64 s2.f0,.int .i64 s2.f1,.int .i64 s2.run,.int .i64 s2.aZ,.bool s2.over,.int .i64 s2.bC] rfl rfl (dK _ _ _ _ rfl) (dL s2 As2 cs2) (by omega) (by simp only [maxLen];omega) (by omega) (by simp;omega) (wx.heap.size+1) (by simp) ?_))
     intro g1 cap w4 hown4 hgrow hat _
     have hge:∀ g,(Value.slice A L.length c).ownBlock=some g→B5+1≤g:=fun g hg=>(bg hI.row.own hg).1
     have hl5:=hI.lt
     have hI4:adx S r (plain l) w B5 (k+1) (k+1) (L++[⟨s2,As2,cs2⟩]) (some ⟨g1,0,none⟩) cap s2 As2 cs2 w4:=by
      have hl1:(L++[(⟨s2,As2,cs2⟩:StE)]).length=L.length+1:=by simp
      refine ⟨hI.lst.snoc hI.hse,hI.hr.blk (aaZ hgrow (by omega) (fun e=>by have:=hge _ e;omega)),hI.hs.blk (aaZ hgrow hltx (fun e=>by have:=hge _ e;omega)),?_,hI.row.append (x:=⟨s2,As2,cs2⟩) hI.rs hgrow hown4 hat,hI.lt,hI.hse,hI.bw.trans (anF hgrow (fun g hg=>by have:=hge g hg;omega) hI.bw.size)⟩
      rw [hl1]
      exact Zo.apart hgrow hat hI.rs
     have HI4:=hide hI4
     clear hI4 hown4 hgrow hge hat hI hrel hsx
     go_wp2
     go_roundw
     case rel=>exact ⟨k+1,L++[⟨s2,As2,cs2⟩],some ⟨g1,0,none⟩,cap,s2,As2,cs2,by omega,by go_num,by simp,HI4.out⟩
     case measure=>simp [intOf];omega
    clear hK8
    have HJ:=hide J
    clear J
    by_cases Vb:M.legal r s e.x=0
    · have q1:(M.legal r s e.x == 0)=true:=by simpa using Vb
      have HLG:=hide Vb
      clear Vb
      refine wp_region_held_drew (S:=(fun w':World=>Below wr.heap.size wr w')) (by kernel_rfl) ?jw (fun hHeld=>?_)
      case jw=>exact (Below.refl _ _).drew
      refine wpAnyH_take (i:=0) (oi:=_) (v:=_) (ga rfl) (by kernel_rfl) (by kernel_rfl) (by kernel_rfl) (fun _ _ _ h=>h) (yieldsIf_load_mid (by rfl) _ _ (by rfl) _ _ (by rfl) _ _ hr0 Tryz.underlying25 rfl (by kernel_rfl)) (by assumption) ?_
      try simp only [Act.put,la,lz,ls]
      refine wpAnyH_take (i:=1) (oi:=_) (v:=_) (ga rfl) (by kernel_rfl) (by kernel_rfl) (by kernel_rfl) (fun _ _ _ h=>h) (yieldsIf_load_mid (by rfl) _ _ (by rfl) _ _ (by rfl) _ _ hr1 Tryz.underlying42 rfl (by kernel_rfl)) (by assumption) ?_
      try simp only [Act.put,la,lz,ls]
      refine tk 2 ?_
      refine tk 3 ?_
      refine tk 4 ?_
      refine wpAnyH_take (i:=5) (oi:=_) (v:=_) (ga rfl) (by kernel_rfl) (by kernel_rfl) (by kernel_rfl) (fun _ _ _ h=>h) (yieldsIf_load_mid (by rfl) _ _ (by rfl) _ _ (by rfl) _ _ SC Tryz.underlying69 rfl (by kernel_rfl)) (by assumption) ?_
      try simp only [Act.put,la,lz,ls]
      refine tr 6 fun K hK=>?_
      go_simp
      (go_at_call 46;refine (QH.out _ hHeld).mono ?_;rintro e w2 ⟨rfl,hb2⟩)
      refine hK.out _ _ ?Tn (fun hHeld=>?_)
      case Tn=>(exact hHeld.trans (hb2.mono hHeld.size))
      clear hK K
      try simp only [Act.put,la,lz,ls]
      refine tk 7 ?_
      refine wpAnyH_done (by kernel_rfl) ?_ _
      refine hKC _ _ ?_
      refine wp_cond_true rfl ?_
      refine ZM (p:=fun W=>Code.wp _ _ _ _ W) (fun wz hwz=>?_)
      have hHz:Below wr.heap.size wr wz:=by rw [hwz];exact hHeld
      clear hwz hHeld
      have hIz:=hI.below hHz
      clear hr0 hr1 SC hb2 QH
      obtain ⟨tn,htn⟩:∃ q,M.next r s e.x=q:=⟨_,rfl⟩
      have hpo:=UC.out.below hHz
      have hge:∀ g,(Value.slice A L.length c).ownBlock=some g→B5+1≤g:=fun g hg=>(bg hI.row.own hg).1
      have hl5:=hI.lt
      have hnx:=fun W' (h:Below wz.heap.size wz W')=>alR (fun b=>(fun b=>((S b∧b<w.heap.size)∨w.heap.size+1≤b)∧b≠B5) b∧(Value.slice A L.length c).ownBlock≠some b) r s e.x As e.a cs e.c W' (hIz.rs.below h) (Reads.below (Reads.more hpo (fun b _ h=>⟨⟨.inl h,by omega⟩,fun e=>by have:=hge _ e;omega⟩)) h) (VP.out HLG.out)
      rw [htn] at hnx
      have VK:=hide hnx
      have HTN:=hide (show tn=M.TS r (plain l) (k+1) by rw [atG.out,aqL HLG.out,htn])
      have hwz:=hHz.size
      have hr0:∀ W',(fun w':World=>∀ p q,p<wz.heap.size→p≠B5→w'.cell? ⟨p,q,none⟩=wz.cell? ⟨p,q,none⟩) W'→W'.rangeAt w.heap.size 0 ([.string r.game,.int .i64 r.target,.int .i64 r.aY]):=fun W' h j v hj=>by rw [h _ _ hIz.hr.lt (by omega)];exact hIz.hr.range j v hj
      have SC:∀ W',(fun w':World=>∀ p q,p<wz.heap.size→p≠B5→w'.cell? ⟨p,q,none⟩=wz.cell? ⟨p,q,none⟩) W'→W'.rangeAt b (o+k*7) (au e):=fun W' h j v hj=>by rw [h _ _ (by omega) (by omega)];exact (hHz.cell (p:=⟨b,o+k*7+j,none⟩) hbl).trans (avL.out j v hj)
      clear hnx htn hpo hge
      refine wp_region_held_drew (S:=(fun w':World=>∀ p q,p<wz.heap.size→p≠B5→w'.cell? ⟨p,q,none⟩=wz.cell? ⟨p,q,none⟩)) (by kernel_rfl) ?eP (fun hHeld=>?_)
      case eP=>exact fun p q _ _=>rfl
      refine wpAnyH_take (i:=0) (oi:=_) (v:=_) (ga rfl) (by kernel_rfl) (by kernel_rfl) (by kernel_rfl) (fun _ _ _ h=>h) (yieldsIf_load_mid (by rfl) _ _ (by rfl) _ _ (by rfl) _ _ hr0 Tryz.underlying25 rfl (by kernel_rfl)) (by assumption) ?_
      try simp only [Act.put,la,lz,ls]
      refine tk 2 ?_
      refine tk 3 ?_
      refine tk 4 ?_
      refine wpAnyH_take (i:=5) (oi:=_) (v:=_) (ga rfl) (by kernel_rfl) (by kernel_rfl) (by kernel_rfl) (fun _ _ _ h=>h) (yieldsIf_load_mid (by rfl) _ _ (by rfl) _ _ (by rfl) _ _ SC Tryz.underlying69 rfl (by kernel_rfl)) (by assumption) ?_
      try simp only [Act.put,la,lz,ls]
      refine tr 1 fun K hK=>?_
      refine aq6 (by kernel_rfl) ?_
      refine sD (show Held wz.drew B5 (aW s As cs) 42 from hIz.hs) Tryz.underlying42 rfl Zc (.tmp 5) rfl rfl ?_
      refine hK.out _ _ ?auQ (fun hHeld=>?_)
      case auQ=>(exact fun p q _ _=>rfl)
      clear hK K
      try simp only [Act.put,la,lz,ls]
      refine tr 6 fun K hK=>?_
      go_simp
      (go_at_call 47;refine (VK.out _ (Below.refl _ _).drew).mono ?_;rintro e3 w3 ⟨A3,c3,rfl,hr3,hb3⟩;obtain ⟨hH3,hJ3⟩:=adx.set hIz.drew hb3 hr3 HTN.out)
      refine hK.out _ _ ?Lp (fun hHeld=>?_)
      case Lp=>(exact fun p q hp _=>hb3.cell (p:=⟨p,q,none⟩) hp)
      clear hK K
      try simp only [Act.put,la,lz,ls]
      refine tr 7 fun K hK=>?_
      refine aq6 (by kernel_rfl) ?_
      refine bF (cs:=aW s As cs) hH3 (aW tn A3 c3) rfl Zc (dL _ _ _) (.tmp 5) (.tmp 32) rfl rfl rfl ?_
      refine hK.out _ _ ?auX (fun hHeld=>?_)
      case auX=>(exact fun p q hp hn=>(kN _ _ _ _ hn).trans (hHeld p q hp hn))
      clear hK K
      try simp only [Act.put,la,lz,ls]
      refine wpAnyH_done (by kernel_rfl) ?_ _
      exact HJ.out tn A3 c3 _ _ _ _ _ _ _ _ _ _ _ _ _ _ _ _ _ _ _ _ _ _ _ _ _ _ hJ3
    · have q1:(M.legal r s e.x == 0)=false:=by simpa using Vb
      have HLG:=hide Vb
      clear Vb
      refine wp_region_held_drew (S:=(fun w':World=>Below wr.heap.size wr w')) (by kernel_rfl) ?lJ (fun hHeld=>?_)
      case lJ=>exact (Below.refl _ _).drew
      refine wpAnyH_take (i:=0) (oi:=_) (v:=_) (ga rfl) (by kernel_rfl) (by kernel_rfl) (by kernel_rfl) (fun _ _ _ h=>h) (yieldsIf_load_mid (by rfl) _ _ (by rfl) _ _ (by rfl) _ _ hr0 Tryz.underlying25 rfl (by kernel_rfl)) (by assumption) ?_
      try simp only [Act.put,la,lz,ls]
      refine wpAnyH_take (i:=1) (oi:=_) (v:=_) (ga rfl) (by kernel_rfl) (by kernel_rfl) (by kernel_rfl) (fun _ _ _ h=>h) (yieldsIf_load_mid (by rfl) _ _ (by rfl) _ _ (by rfl) _ _ hr1 Tryz.underlying42 rfl (by kernel_rfl)) (by assumption) ?_
      try simp only [Act.put,la,lz,ls]
      refine tk 2 ?_
      refine tk 3 ?_
      refine tk 4 ?_
      refine wpAnyH_take (i:=5) (oi:=_) (v:=_) (ga rfl) (by kernel_rfl) (by kernel_rfl) (by kernel_rfl) (fun _ _ _ h=>h) (yieldsIf_load_mid (by rfl) _ _ (by rfl) _ _ (by rfl) _ _ SC Tryz.underlying69 rfl (by kernel_rfl)) (by assumption) ?_
      try simp only [Act.put,la,lz,ls]
      refine tr 6 fun K hK=>?_
      go_simp
      (go_at_call 46;refine (QH.out _ hHeld).mono ?_;rintro e w2 ⟨rfl,hb2⟩)
      refine hK.out _ _ ?au4 (fun hHeld=>?_)
      case au4=>(exact hHeld.trans (hb2.mono hHeld.size))
      clear hK K
      try simp only [Act.put,la,lz,ls]
      refine tk 7 ?_
      refine wpAnyH_done (by kernel_rfl) ?_ _
      refine hKC _ _ ?_
      refine wp_cond_false rfl ?_
      refine ZM (p:=fun W=>Code.wp _ _ _ _ W) (fun wz hwz=>?_)
      have hHz:Below wr.heap.size wr wz:=by rw [hwz];exact hHeld
      clear hwz hHeld
      have hIz:=hI.below hHz
      clear hr0 hr1 SC hb2 QH
      go_wp2
      exact HJ.out s As cs _ _ _ _ _ _ _ _ _ _ _ _ _ _ _ _ _ _ _ _ _ _ _ _ _ _ ⟨hIz.lst,hIz.hr,hIz.hs,hIz.rs,hIz.row,hIz.lt,by rw [atG.out,aqZ HLG.out],hIz.bw⟩
  · have hke:k=l.length:=by omega
    have i9:¬ ((k:Int)<(l.length:Int)):=by omega
    have hfin:StL r (plain l) l.length L∧RdT wr (fun b=>(S b∧b<w.heap.size)∨w.heap.size≤b) A c L:=by
     have h1:=hI.lst
     have hl1:=h1.len
     have hl5:=hI.lt
     rw [hke] at h1
     refine ⟨h1,hI.row.read (by omega) (fun b hb=> .inr (by omega)) (fun b hb=>?_)⟩
     rcases hb.1 with h | h
     · exact .inl h
     · exact .inr (by omega)
    have HF:=hide (And.intro hfin hI.bw)
    clear hke hfin hI hp
    go_wp2
    refine Q9.out _ _ ?_
    go_wp2
    go_ret
    exact ⟨L,A,c,rfl,HF.out.1.1,HF.out.1.2,HF.out.2⟩
theorem agr (S:Nat→Prop) (r:M.Rules) (l:List Sh) (A0:Option Addr) (c0:Nat) (w:World) (hp:wG w S A0 c0 l) (hr:M.aH r=0) (hl:M.je (plain l)=0):
 Calls Tryz.prog 67 #[jM r,.slice A0 l.length c0] w fun e w'=>∃ L A' c',e= .returned (.slice A' L.length c')∧StL r (plain l) l.length L∧RdT w' (fun b=>(S b∧b<w.heap.size)∨w.heap.size≤b) A' c' L∧Below w.heap.size w w':=by
 have HP:=hide (hp.more (S':=fun b=>S b∧b<w.heap.size) (fun b hb h=>⟨h,hb⟩))
 have arf:=hide (avE S r l A0 c0 w HP (hide ⟨hr,hl⟩))
 obtain ⟨s0,hs0⟩:∃ q,M.start r=q:=⟨_,rfl⟩
 have hst:=fun W=>ak8 r W
 rw [hs0] at hst
 have HST:=hide hst
 have wZ:=hide (And.intro hr hl)
 have HS0:=hide hs0
 clear hst hr hl hs0
 go_enter Tryz.func67,Tryz.ntmps67
 apply wp_seq_k
 intro K hK
 have HK:=hide hK
 clear hK
 have hB0:=(bU.nil w).new (by simp) ([.string r.game,.int .i64 r.target,.int .i64 r.aY]) 25
 go_wp2
 refine HK.out _ _ ?_
 refine ZM (p:=fun W=>Code.wp _ _ _ _ W) (fun w0 hw0=>?_)
 have hB:bU w w0 [([.string r.game,.int .i64 r.target,.int .i64 r.aY],25)]:=by rw [hw0];exact hB0
 clear hw0 hB0
 apply wp_seq_k
 intro K hK
 have HK:=hide hK
 clear hK
 go_wp2_with (first | (refine aN 25 (.tmp 2) rfl ?_;refine aG (hB.bf rfl) Tryz.underlying25 rfl Zm rfl (.tmp 2) rfl rfl ?_) | (go_at_call 38;refine (HST.out _).mono ?_;rintro e w1 ⟨A1,c1,rfl,hr1,hb1⟩;have hB1:=hB.call (by simp) hb1;have hN1:=Held.new w1 aj 42) | (refine aO 42 (.tmp 5) (.tmp 9) rfl ?_;refine aF hN1 (aW s0 A1 c1) rfl Z8 (dL _ _ _) rfl (.tmp 5) (.tmp 9) rfl rfl rfl ?_))
 refine HK.out _ _ ?_
 refine ZM (p:=fun W=>Code.wp _ _ _ _ W) (fun w2 hw2=>?_)
 have hS2:Held w2 w1.heap.size (aW s0 A1 c1) 42:=by rw [hw2];exact hN1.whole (aW s0 A1 c1) rfl
 have hR2:Held w2 w.heap.size ([.string r.game,.int .i64 r.target,.int .i64 r.aY]) 25:=by rw [hw2];exact (Held.others (by have:=hB.bw.size;have:=hb1.size;have:=(hB.bf rfl).lt;omega) _ _ _ ((hB1.bf rfl).alloc _))
 have hb2:Below w1.heap.size w1 w2:=by rw [hw2];exact below_setCells _ (Nat.le_refl _) _ _ _ _ ((Below.refl _ _).alloc (Nat.le_refl _) _)
 have hq2:w2.heap.size=w1.heap.size+1:=by rw [hw2,setCells_size];simp
 have hlt1:w.heap.size<w1.heap.size:=(hB1.bf rfl).lt
 have hbw2:Below w.heap.size w w2:=hB1.bw.trans (hb2.mono (by omega))
 have hr2:bD w2 (fun b=>((S b∧b<w.heap.size)∨w.heap.size+1≤b)∧b≠w1.heap.size) A1 c1 s0.ay:=(bD.more hr1 (fun b hl h=>⟨.inr (by have h:w0.heap.size≤b:=h;have:=(hB.bf rfl).lt;omega),by omega⟩)).below hb2
 obtain ⟨B5,NM⟩:∃ q,w1.heap.size=q:=⟨_,rfl⟩
 rw [NM] at hS2 hq2 hlt1 hr2
 rw [NM]
 clear hw2 hb2 hB1 hN1 hr1 hb1 hB NM
 have hlit:=Zo.lit (e:=42) (D:=B5+1) (Z:=(fun b=>((S b∧b<w.heap.size)∨w.heap.size+1≤b)∧b≠B5)) w2 ⟨s0,A1,c1⟩ (by omega) hr2
 have hba:=(Below.refl w2.heap.size w2).alloc (Nat.le_refl _) (.cells (stC ⟨s0,A1,c1⟩).toArray 42)
 have hI0:adx S r (plain l) w B5 0 0 [⟨s0,A1,c1⟩] (some ⟨B5+1,0,none⟩) 1 s0 A1 c1 (w2.alloc (.cells (stC ⟨s0,A1,c1⟩).toArray 42)):=by
  rw [← hq2]
  exact ⟨⟨rfl,fun k hk=>by have hk0:k=0:=(by simp at hk;omega)
                           subst hk0;exact HS0.out.symm⟩,hR2.below hba,hS2.below hba,bD.more ((bD.more hr2 (S':=fun b=>(fun b=>((S b∧b<w.heap.size)∨w.heap.size+1≤b)∧b≠B5) b∧b<w2.heap.size) (fun b hb h=>⟨h,hb⟩)).below hba) (fun b _ h=>⟨h.1,fun e=>by cases e;exact Nat.lt_irrefl _ h.2⟩),hlit,hlt1,HS0.out.symm,VY hbw2 hba⟩
 have auu:Held w2 B5 [.int .i64 s0.turn,.bool s0.brk,.bool s0.hand,.bool s0.push,.bool s0.pushed,.int .i64 s0.group,.slice A1 s0.ay.length c1,.int .i64 s0.s0,.int .i64 s0.s1,.int .i64 s0.f0,.int .i64 s0.f1,.int .i64 s0.run,.int .i64 s0.aZ,.bool s0.over,.int .i64 s0.bC] 42:=hS2
 apply wp_seq_k
 intro K hK
 have HK:=hide hK
 clear hK
 go_wp2_with (first | (refine aN 42 (.tmp 5) rfl ?_;refine aG (auu) Tryz.underlying42 rfl Zc rfl (.tmp 5) rfl rfl ?_))
 refine HK.out _ _ ?_
 refine ZM (p:=fun W=>Code.wp _ _ _ _ W) (fun W0 hW0=>?_)
 have hI:adx S r (plain l) w B5 0 0 [⟨s0,A1,c1⟩] (some ⟨B5+1,0,none⟩) 1 s0 A1 c1 W0:=by rw [hW0];exact hI0
 clear hW0 hI0 hlit hba hR2 hS2 auu hr2 hbw2 hq2
 have HA:=arf.out
 apply HA
 exact ⟨rfl,rfl,_,_,_,_,_,_,_,rfl,rfl,hI⟩
def aeU (r:M.Rules) (s:M.State):List Sh→List Sh
 | []=>[]
 | x::l=>if M.legal r s x.x=0 then x::aeU r (M.step r s x.x) l else aeU r (M.step r s x.x) l
theorem afr (r:M.Rules) (x:Sh):∀ (l:List Sh) (s:M.State),aeU r s (l++[x])=aeU r s l++(if M.legal r (M.final r s (plain l)) x.x=0 then [x] else [])
 | [],s=>by simp only [List.nil_append,aeU,plain,List.map_nil,M.final,List.foldl_nil]
 | y::l,s=>by
   have e:M.final r s (plain (y::l))=M.final r (M.step r s y.x) (plain l):=rfl
   rw [List.cons_append,aeU,aeU,afr r x l,e]
   split <;> rfl
def adO (r:M.Rules) (l:List Sh) (k:Nat):List Sh:=aeU r (M.start r) (l.take k)
theorem akL (r:M.Rules) (l:List Sh) (k:Nat) (hk:k<l.length):adO r l (k+1)=adO r l k++(if M.legal r (lQ r l k) l[k].x=0 then [l[k]] else []):=by
 unfold adO lQ
 rw [List.take_succ_eq_append_getElem hk,afr]
structure SpI (W0:World) (B7:Nat) (WL:World) (r:M.Rules) (l:List Sh) (k:Nat) (A9:Option Addr) (c9:Nat) (Yv:Option Addr) (c10:Nat) (W:World):Prop where
 atz:Turn (fun b=>b=B7∨WL.heap.size≤b) WL W
 lt7:B7<WL.heap.size
 ge7:W0.heap.size≤B7
 ai0:W.ownsRow WL.heap.size 66 7 (.slice A9 (adO r l k).length c9) (adO r l k).length (bI (adO r l k))
 ah1:W.ownsRow WL.heap.size 51 2 (.slice Yv (lK r l k).length c10) (lK r l k).length ((lK r l k).flatMap am2)
 ne:∀ g,(Value.slice A9 (adO r l k).length c9).ownBlock=some g→(Value.slice Yv (lK r l k).length c10).ownBlock≠some g
 s:∃ As cs,Held W B7 (aW (lQ r l k) As cs) 33∧bD W (fun b=>b≠B7∧(Value.slice A9 (adO r l k).length c9).ownBlock≠some b∧(Value.slice Yv (lK r l k).length c10).ownBlock≠some b) As cs (lQ r l k).ay
 bw:Below W0.heap.size W0 W
section
variable {W0 WL W W':World} {B7 k c9 c10:Nat} {r:M.Rules} {l:List Sh} {A9 Yv:Option Addr}
theorem SpI.below (h:SpI W0 B7 WL r l k A9 c9 Yv c10 W) (hb:Below W.heap.size W W'):SpI W0 B7 WL r l k A9 c9 Yv c10 W':=by
 obtain ⟨As,cs,h1,h2⟩:=h.s
 exact ⟨h.atz.trans (X':=fun _=>False) (Turn.of_below hb) (fun b h=>h.elim),h.lt7,h.ge7,bT h.ai0 (fun g hg=>hb.block g (ar0 h.ai0 hg)),bT h.ah1 (fun g hg=>hb.block g (ar0 h.ah1 hg)),h.ne,⟨As,cs,h1.below hb,h2.below hb⟩,VY h.bw hb⟩
theorem SpI.set {t:M.State} {A1:Option Addr} {c1:Nat} {A9':Option Addr} {c9':Nat} (h:Turn (fun b=>b=B7∨WL.heap.size≤b) WL W) (lt7:B7<WL.heap.size) (ge7:W0.heap.size≤B7)
 (ai0:W.ownsRow WL.heap.size 66 7 (.slice A9' (adO r l (k+1)).length c9') (adO r l (k+1)).length (bI (adO r l (k+1))))
 (ah1:W.ownsRow WL.heap.size 51 2 (.slice Yv (lK r l (k+1)).length c10) (lK r l (k+1)).length ((lK r l (k+1)).flatMap am2))
 (ne:∀ g,(Value.slice A9' (adO r l (k+1)).length c9').ownBlock=some g→(Value.slice Yv (lK r l (k+1)).length c10).ownBlock≠some g) (ht:lQ r l (k+1)=t) {cs0:List Value} (hs:Held W B7 cs0 33) (hl:cs0.length=15)
 (hr:bD W (fun b=>b≠B7∧(Value.slice A9' (adO r l (k+1)).length c9').ownBlock≠some b∧(Value.slice Yv (lK r l (k+1)).length c10).ownBlock≠some b) A1 c1 t.ay) (hb:Below W0.heap.size W0 W):
 SpI W0 B7 WL r l (k+1) A9' c9' Yv c10 (W.setCells B7 0 (aW t A1 c1)):=by
 subst ht
 have hf:∀ {e:TypeId} {size n:Nat} {v:Value} {xs:List Value},W.ownsRow WL.heap.size e size v n xs→(W.setCells B7 0 (aW (lQ r l (k+1)) A1 c1)).ownsRow WL.heap.size e size v n xs:=fun ho=>
  bT ho (fun g hg=>Held.lC (by have:=(bg ho hg).1;omega) _ _ _)
 exact ⟨h.trans (l7 (X:=fun b=>b=B7) rfl _ _) (fun b h=> .inl (.inl h)),lt7,ge7,hf ai0,hf ah1,ne,⟨A1,c1,hs.whole _ (by rw [hl];rfl),bD.sets (fun h'=>h'.1 rfl) _ _ _ hr⟩,below_setCells _ ge7 _ _ _ _ hb⟩
theorem SpI.no {w4:World} {g1 cap:Nat} {o:Obj} (h:SpI W0 B7 WL r l k A9 c9 Yv c10 W) (hk:k<l.length) (hl:¬ M.legal r (lQ r l k) l[k].x=0) (hgrow:(W.alloc o).grownBy w4 (Value.slice Yv (lK r l k).length c10).ownBlock)
 (hown4:w4.ownsRow WL.heap.size 51 2 (.slice (some ⟨g1,0,none⟩) ((lK r l k).length+1) cap) ((lK r l k).length+1) ((lK r l k).flatMap am2++am2 ⟨(k:Int)+1,M.legal r (lQ r l k) l[k].x⟩)) (hat:(Value.slice Yv (lK r l k).length c10).ownBlock=some g1∨g1=W.heap.size+1):
 SpI W0 B7 WL r l (k+1) A9 c9 (some ⟨g1,0,none⟩) cap w4:=by
 have e1:adO r l (k+1)=adO r l k:=by rw [akL r l k hk,if_neg hl,List.append_nil]
 have e2:lK r l (k+1)=lK r l k++[⟨(k:Int)+1,M.legal r (lQ r l k) l[k].x⟩]:=by rw [Ew r l k hk,if_pos hl]
 have e3:lQ r l (k+1)=lQ r l k:=by rw [vF r l k hk,aqZ hl]
 have hge:∀ g,(Value.slice Yv (lK r l k).length c10).ownBlock=some g→WL.heap.size≤g:=fun g hg=>(bg h.ah1 hg).1
 have h7:(Value.slice Yv (lK r l k).length c10).ownBlock≠some B7:=fun e=>by have:=hge _ e;have:=h.lt7;omega
 have hwl:WL.heap.size≤W.heap.size:=h.atz.size
 obtain ⟨As,cs,h1,h2⟩:=h.s
 have hne:∀ b,b<W.heap.size→(Value.slice Yv (lK r l k).length c10).ownBlock≠some b→(some g1:Option Nat)≠some b:=fun b hb hn e=>by
  cases e
  rcases hat with h3 | h3
  · exact hn h3
  · omega
 refine ⟨h.atz.trans (anx (X:=fun b=>WL.heap.size≤b) hgrow hge) (fun b hb=> .inl (.inr hb)),h.lt7,h.ge7,?_,?_,?_,⟨As,cs,?_,?_⟩,?_⟩
 · rw [e1]
   exact bT h.ai0 (fun g hg=>aaZ hgrow (ar0 h.ai0 hg) (h.ne g hg))
 · rw [e2,List.length_append,List.flatMap_append]
   have:[(⟨(k:Int)+1,M.legal r (lQ r l k) l[k].x⟩:M.uZ)].flatMap am2=am2 ⟨(k:Int)+1,M.legal r (lQ r l k) l[k].x⟩:=by simp
   rw [this]
   exact hown4
 · rw [e1]
   exact fun g hg=>hne g (ar0 h.ai0 hg) (h.ne g hg)
 · rw [e3];exact h1.blk (aaZ hgrow (by have:=h.lt7;omega) h7)
 · rw [e1,e3]
   exact anp hgrow h2 (fun b hb hS=>⟨hS.2.2,hS.1,hS.2.1,hne b hb hS.2.2⟩)
 · exact h.bw.trans ((Below.refl _ _).trans ⟨hgrow.os,hgrow.tape,hgrow.output,Nat.le_trans (by simp) hgrow.size,fun b hb=>aaZ hgrow (by have:=h.bw.size;omega) (fun e=>by have:=hge b e;have:=h.ge7;have:=h.lt7;omega)⟩)
end
theorem agY (r:M.Rules) (l:List Sh) (k:Nat):M.TS r (plain l) k=lQ r l k:=by
 unfold M.TS lQ plain
 rw [List.map_take]
structure ait (S:Nat→Prop) (r:M.Rules) (l:List Sh) (w:World) (nb:Nat) (L:List StE) (A:Option Addr) (c:Nat) (W:World):Prop where
 lst:StL r (plain l) l.length L
 hr:Held W w.heap.size ([.string r.game,.int .i64 r.target,.int .i64 r.aY]) 25
 rt:RdT W (fun b=>(S b∧b<w.heap.size)∨w.heap.size+nb≤b) A c L
 bw:Below w.heap.size w W
theorem ait.below {S:Nat→Prop} {r:M.Rules} {l:List Sh} {w:World} {nb:Nat} {L:List StE} {A:Option Addr} {c:Nat} {W W':World} (h:ait S r l w nb L A c W) (hb:Below W.heap.size W W'):ait S r l w nb L A c W':=
 ⟨h.lst,h.hr.below hb,h.rt.below hb,VY h.bw hb⟩
theorem ait.at_ {S:Nat→Prop} {r:M.Rules} {l:List Sh} {w:World} {nb:Nat} {L:List StE} {A:Option Addr} {c:Nat} {W:World} (h:ait S r l w nb L A c W):∃ b o,A=some ⟨b,o,none⟩∧b<W.heap.size∧∀ k,k≤l.length→∃ As cs,W.rangeAt b (o+k*15) (aW (lQ r l k) As cs)∧bD W (fun b=>(S b∧b<w.heap.size)∨w.heap.size+nb≤b) As cs (lQ r l k).ay:=by
 have hl:=h.lst.len
 obtain ⟨b,o,e,_,hb,hc⟩:=Reads.at_ h.rt.1 (by omega)
 refine ⟨b,o,e,hb,fun k hk=>?_⟩
 have hkL:k<L.length:=by omega
 have hg:=(h.lst.get k hkL).trans (agY r l k)
 have hr:=anT alv hc k hkL
 have hb2:=h.rt.2 _ (List.getElem_mem hkL)
 rw [hg] at hb2
 have he:stC L[k]=aW (lQ r l k) L[k].a L[k].c:=by unfold stC;rw [hg]
 rw [he] at hr
 exact ⟨_,_,hr,hb2⟩
theorem aeE {wr X:World} {g7 g8 g9:Nat} {z7 z8 z9 v7 v8 v9:List Value} {t7 t8 t9:TypeId} (h7:Held X g7 z7 t7) (h8:Held X g8 z8 t8) (h9:Held X g9 z9 t9) (n78:g7≠g8) (n79:g7≠g9) (n89:g8≠g9) (l7:z7.length=v7.length) (l8:z8.length=v8.length) (l9:z9.length=v9.length)
 (hb:Below wr.heap.size wr (((X.setCells g7 0 v7).setCells g8 0 v8).setCells g9 0 v9)):Held (((X.setCells g7 0 v7).setCells g8 0 v8).setCells g9 0 v9) g7 v7 t7∧Held (((X.setCells g7 0 v7).setCells g8 0 v8).setCells g9 0 v9) g8 v8 t8∧Held (((X.setCells g7 0 v7).setCells g8 0 v8).setCells g9 0 v9) g9 v9 t9∧Below wr.heap.size wr (((X.setCells g7 0 v7).setCells g8 0 v8).setCells g9 0 v9):=by
 obtain ⟨a,b,c⟩:=alY h7 h8 h9 n78 n79 n89 l7 l8 l9
 exact ⟨a,b,c,hb⟩
noncomputable def ahu (n:Nat):Code:=dQ n ((Tryz.f25).body.getD .skip)
@[reducible] def apP (S:Nat→Prop) (r:M.Rules) (l:List Sh) (A0:Option Addr) (c0:Nat) (w:World) (F:Value→Value→Value→Value→Value→World→Prop) (n:Nat):Prop:=∀ (z0 z1 z2 z3 z4 z5 z6 z7 z8 z9 z10 z11 z12 z13 kD kK kF z17 kL jQ z20 z21 z22 z23 z24 z25 z26 z27 z28 z29 z30 z31 z32 z33 z34 z35 z36 z37 z38 z39 z40 z41 z42 z43 z44 z45 z46 z47 z48 z49 z50 z51 z52 z53 z54 z55 z56 z57 z58 z59 z60 z61 z62 z63 z64 z65 z66 z67 z68 z69 z70 z71 z72 z73 z74 z75 z76 z77 z78 z79 z80 mM z82 z83 z84 z85 z86 z87:Value) (W:World),F z1 z2 z5 z6 z7 W→(ahu n).wp Tryz.prog (bodyPost Tryz.prog Tryz.f25 (fun e w'=>∃ A2 c2,e= .returned (.slice A2 (M.runs r (plain l)).length c2)∧Reads w' (fun b=>w.heap.size≤b) 2 A2 (M.runs r (plain l)).length c2 ((M.runs r (plain l)).flatMap acX)∧Below w.heap.size w w')) {tmps:= #[z0,z1,z2,z3,z4,z5,z6,z7,z8,z9,z10,z11,z12,z13,kD,kK,kF,z17,kL,jQ,z20,z21,z22,z23,z24,z25,z26,z27,z28,z29,z30,z31,z32,z33,z34,z35,z36,z37,z38,z39,z40,z41,z42,z43,z44,z45,z46,z47,z48,z49,z50,z51,z52,z53,z54,z55,z56,z57,z58,z59,z60,z61,z62,z63,z64,z65,z66,z67,z68,z69,z70,z71,z72,z73,z74,z75,z76,z77,z78,z79,z80,mM,z82,z83,z84,z85,z86,z87],defers:=[] } W
theorem al8:(Tryz.prog.info? 62).map (fun i=>(i.zero,i.size,i.bytes))=some (some (.agg #[.int .i64 0,.int .i64 0]),2,16):=by kernel_rfl
theorem acy:(Tryz.prog.info? 62).map (·.size)=some 2:=by kernel_rfl
structure RnI (r:M.Rules) (l:List Sh) (WL:World) (k:Nat) (now:M.Run) (acc:List M.Run) (A2:Option Addr) (c2:Nat) (wr:World):Prop where
 bw:Below WL.heap.size WL wr
 bx:Held wr WL.heap.size [.int .i64 now.aC,.int .i64 now.points] 62
 own:wr.ownsRow (WL.heap.size+1) 62 2 (.slice A2 acc.length c2) acc.length (acc.flatMap acX)
 p0:0≤now.points
 p1:now.points≤16*(k:Int)
 al:acc.length≤k
 eq:M.acn r (lQ r l k) now acc ((plain l).drop k)=M.runs r (plain l)
section
variable {r:M.Rules} {l:List Sh} {WL wr wr':World} {k:Nat} {now:M.Run} {acc:List M.Run} {A2:Option Addr} {c2:Nat}
theorem RnI.below (h:RnI r l WL k now acc A2 c2 wr) (hb:Below wr.heap.size wr wr'):RnI r l WL k now acc A2 c2 wr':=
 ⟨VY h.bw hb,h.bx.below hb,bT h.own (fun g hg=>hb.block g (ar0 h.own hg)),h.p0,h.p1,h.al,h.eq⟩
theorem RnI.start:RnI r l WL 0 ⟨0,0⟩ [] none 0 ((WL.alloc (.cells ([.int .i64 0,.int .i64 0]:List Value).toArray 62)).setCells WL.heap.size 0 [.int .i64 0,.int .i64 0]):=by
 have hn:=Held.new WL [.int .i64 0,.int .i64 0] 62
 refine ⟨below_setCells _ (Nat.le_refl _) _ _ _ _ ((Below.refl _ _).alloc (Nat.le_refl _) _),hn.whole _ rfl,World.ownsRow_nil _ _ _ _,by simp,by simp,by simp,?_⟩
 have:lQ r l 0=M.start r:=by unfold lQ;simp [plain,M.final]
 rw [this,List.drop_zero]
 exact (M.apr r (plain l)).symm
theorem amg (hk:k<l.length):M.acn r (lQ r l k) now acc ((plain l).drop k)=
 if M.legal r (lQ r l k) l[k].x≠0∨l[k].x.kind=M.aT then M.acn r (lQ r l (k+1)) now acc ((plain l).drop (k+1))
 else if ((lQ r l (k+1)).turn≠(lQ r l k).turn∨M.iW r (lQ r l k) l[k].x≠0)∧0<(if M.good r (lQ r l k) l[k].x=true then M.Run.mk l[k].x.aC (now.points+(M.objects l[k].x).length) else now).points
 then M.acn r (lQ r l (k+1)) ⟨0,0⟩ (acc++[if M.good r (lQ r l k) l[k].x=true then M.Run.mk l[k].x.aC (now.points+(M.objects l[k].x).length) else now]) ((plain l).drop (k+1))
 else M.acn r (lQ r l (k+1)) (if M.good r (lQ r l k) l[k].x=true then M.Run.mk l[k].x.aC (now.points+(M.objects l[k].x).length) else now) acc ((plain l).drop (k+1)):=by
 rw [vF r l k hk,List.drop_eq_getElem_cons (by rw [eF];exact hk),Iu l k hk,M.acn]
end
theorem ag6 {a b c d e f g:Prop} (h:a∧b∧c∧d) (h1:e) (h2:f) (h3:g):a∧b∧c∧e∧f∧g∧d:=⟨h.1,h.2.1,h.2.2.1,h1,h2,h3,h.2.2.2⟩
@[reducible] def aqv (S:Nat→Prop) (r:M.Rules) (l:List Sh) (A0:Option Addr) (c0:Nat) (w:World):Prop:=apP S r l A0 c0 w (fun z1 z2 z5 _ _ W=>z1= .slice A0 l.length c0∧z2=ptr w.heap.size∧∃ L A c,z5= .slice A (L:List StE).length c∧ait S r l w 1 L A c W) 2
@[reducible] def am6 (S:Nat→Prop) (r:M.Rules) (l:List Sh) (A0:Option Addr) (c0:Nat) (w:World):Prop:=apP S r l A0 c0 w (fun z1 z2 z5 z6 z7 W=>z1= .slice A0 l.length c0∧z2=ptr w.heap.size∧z6= .slice none 0 0∧∃ WL:World,∃ L A c,z5= .slice A (L:List StE).length c∧ait S r l w 1 L A c WL∧z7=ptr WL.heap.size∧RnI r l WL 0 ⟨0,0⟩ [] none 0 W) 4
theorem avw (S:Nat→Prop) (r:M.Rules) (l:List Sh) (A0:Option Addr) (c0:Nat) (w:World) (HP:Hid (wG w (fun b=>S b∧b<w.heap.size) A0 c0 l)) (wZ:Hid (M.aH r=0∧M.je (plain l)=0)):am6 S r l A0 c0 w:=by
 dsimp only [am6,apP]
 intro z0 _ _ z3 z4 _ _ _ _ z9 z10 z11 z12 z13 kD kK kF z17 kL jQ z20 z21 z22 z23 z24 z25 z26 z27 z28 z29 z30 z31 z32 z33 z34 z35 z36 z37 z38 z39 z40 z41 z42 z43 z44 z45 z46 z47 z48 z49 z50 z51 z52 z53 z54 z55 z56 z57 z58 z59 z60 z61 z62 z63 z64 z65 z66 z67 z68 z69 z70 z71 z72 z73 z74 z75 z76 z77 z78 z79 z80 mM z82 z83 z84 z85 z86 z87 W hf
 dsimp only [ahu,dQ,Tryz.f25,Option.getD]
 obtain ⟨rfl,rfl,rfl,WL,L,A,c,rfl,hT,rfl,hI0⟩:=hf
 have hp:=HP.out
 obtain ⟨b1,b2,b3⟩:=hp.bd
 have hn:=((M.adi _).1 wZ.out.2).1
 rw [eF] at hn
 obtain ⟨i0,hi0,hz0,hz1,hz2⟩:=info_parts al8
 obtain ⟨bs,os,rfl,hbs,hAt⟩:=hT.at_
 have hLn:=hide hT.lst.len
 apply wp_seq_k
 intro K1 hK1
 have Q9:=hide hK1
 clear hK1
 apply wp_seq_k
 intro K2 hK2
 have PD:=hide hK2
 clear hK2
 go_wp2
 refine PD.out _ _ ?_
 go_wp2
 go_loopw [6,8] (fun v i wr=>∃ (k:Nat) (now:M.Run) (acc:List M.Run) (A2:Option Addr) (c2:Nat),k≤l.length∧i= .int .i64 k∧v= .slice A2 acc.length c2∧RnI r l WL k now acc A2 c2 wr) (fun _ i=>fun _=>l.length - (intOf i).toNat)
 case atStart=>exact ⟨0,⟨0,0⟩,[],none,0,Nat.zero_le _,rfl,rfl,hI0⟩
 case round=>
  obtain ⟨k,now,acc,A2,c2,hk,rfl,rfl,hI⟩:=hrel
  have hbr:=hI.bw
  by_cases hlt:k<l.length
  · obtain ⟨b,o,rfl,hSb,hbl,hcs⟩:=Reads.at_ ((hp.below hT.bw).below hbr).1 (by omega)
    have h01:wr.rangeAt b (o+k*7) (au l[k]):=fun j v hj=>by
     have hj7:j<7:=(List.getElem?_eq_some_iff.1 hj).1
     rw [Nat.add_assoc]
     exact hcs _ _ ((jI l k hlt j hj7).trans hj)
    have hpo:=hp.aA k hlt
    obtain ⟨As1,cs1,atj,atc⟩:=hAt k hk
    obtain ⟨As2,cs2,atr,_⟩:=hAt (k+1) (by omega)
    have hok1:=aqE (r:=r) (l:=plain l) wZ.out.1 wZ.out.2 k
    rw [agY] at hok1
    have hck:=((M.adi _).1 wZ.out.2).2 _ (List.getElem_mem (by rw [eF];exact hlt))
    rw [Iu l k hlt] at hck
    have hnx:=amg (r:=r) (now:=now) (acc:=acc) hlt
    obtain ⟨s1,hs1⟩:∃ q,lQ r l k=q:=⟨_,rfl⟩
    obtain ⟨s2,hs2⟩:∃ q,lQ r l (k+1)=q:=⟨_,rfl⟩
    obtain ⟨e,he⟩:∃ q,l[k]=q:=⟨_,rfl⟩
    have heq:=hI.eq
    rw [hs1] at atj atc hok1 hnx heq
    rw [hs2] at atr hnx
    rw [he] at h01 hpo hck hnx
    rw [heq] at hnx
    have hb7:b<WL.heap.size:=Nat.lt_of_lt_of_le hSb.2 hT.bw.size
    have hcall:∀ W',Below WL.heap.size WL W'→bD W' (fun _=>True) As1 cs1 s1.ay∧jl W' (fun _=>True) e.a e.c e.x.aA:=fun W' h=>⟨(bD.more atc (fun _ _ _=>trivial)).below h,Reads.below (Reads.below (Reads.more hpo (fun _ _ _=>trivial)) hT.bw) h⟩
    obtain ⟨lg,hlk⟩:∃ q,M.legal r s1 e.x=q:=⟨_,rfl⟩
    obtain ⟨gd,hgd⟩:∃ q,M.good r s1 e.x=q:=⟨_,rfl⟩
    obtain ⟨fo,hfo⟩:∃ q,M.iW r s1 e.x=q:=⟨_,rfl⟩
    rw [hlk,hgd,hfo] at hnx
    have hLE:=fun W' (h:Below WL.heap.size WL W')=>ael (fun _=>True) r s1 e.x As1 e.a cs1 e.c W' (hcall W' h).1 (hcall W' h).2
    have hGO:=fun W' (h:Below WL.heap.size WL W')=>Zr (fun _=>True) r s1 e.x As1 e.a cs1 e.c W' (hcall W' h).1 (hcall W' h).2 wZ.out.1 hok1.group
    have hFO:=fun W' (h:Below WL.heap.size WL W')=>Zh (fun _=>True) r s1 e.x As1 e.a cs1 e.c W' (hcall W' h).1 (hcall W' h).2 wZ.out.1 hok1.group
    have hOB:=fun W' (h:Below WL.heap.size WL W')=>Zd (fun _=>True) e.x e.a e.c W' (hcall W' h).2
    rw [hlk] at hLE
    rw [hgd] at hGO
    rw [hfo] at hFO
    have QH:=hide hLE
    have WT:=hide hGO
    have WS:=hide hFO
    have TY:=hide hOB
    have VP:=hide hnx
    have HS2:=hide hs2
    have hob:=(M.uw hck).objs
    have hr3:∀ W',(fun w':World=>Below wr.heap.size wr w') W'→W'.rangeAt bs (os+k*15) (aW s1 As1 cs1):=fun W' h j v hj=>(h.cell (p:=⟨bs,os+k*15+j,none⟩) (Nat.lt_of_lt_of_le hbs hbr.size)).trans ((hbr.cell (p:=⟨bs,os+k*15+j,none⟩) hbs).trans (atj j v hj))
    have Wu:∀ W',(fun w':World=>Below wr.heap.size wr w') W'→W'.rangeAt bs (os+(k+1)*15) (aW s2 As2 cs2):=fun W' h j v hj=>(h.cell (p:=⟨bs,os+(k+1)*15+j,none⟩) (Nat.lt_of_lt_of_le hbs hbr.size)).trans ((hbr.cell (p:=⟨bs,os+(k+1)*15+j,none⟩) hbs).trans (atr j v hj))
    have SA:∀ W',(fun w':World=>Below wr.heap.size wr w') W'→W'.rangeAt b (o+k*7) (au e):=fun W' h j v hj=>(h.cell (p:=⟨b,o+k*7+j,none⟩) hbl).trans (h01 j v hj)
    have i1:(0:Int)≤(k:Int):=by omega
    have i2:(k:Int)<(l.length:Int):=by omega
    have i3:(k:Int)<(L.length:Int):=by have:=hLn.out;omega
    have i4:(k:Int)+1<(L.length:Int):=by have:=hLn.out;omega
    have i5:(0:Int)≤(k:Int)+1:=by omega
    have i6:(((k:Int)+1).toNat)=k+1:=by omega
    have i7:IntKind.i64.wrap ((k:Int)+1)=(k:Int)+1:=IntWalk.i64_in _ (by omega)
    clear hLE hGO hFO hOB hlk hgd hfo hcall hcs hp hpo h01 atj atr atc hok1 hck hs1 hs2 he hnx heq
    go_wp2
    rename_i K7 hK7
    have J7:∀ (p8 p9 p10:Nat) (kF z17 kL jQ z20 z21 z22 z23 z24 z25 z26 z27 z28 z29 z30 z31 z32 z33 z34 z35 z36 z37 z38 z39 z40 z41 z42 z43 z44 z45 z46 z47 z48 z49 z50 z51 z52 z53 z54 z55 z56 z57 z58 z59 z60 z61 z62 z63 z64 z65 z66 z67 z68 z69 z70 z71 z72 z73 z74 z75 z76 z77 z78 z79:Value) (wx:World),(Held wx p8 (aW s1 As1 cs1) 42∧Held wx p9 (aW s2 As2 cs2) 42∧Held wx p10 (au e) 69∧p8≠WL.heap.size∧p9≠WL.heap.size∧p10≠WL.heap.size∧Below wr.heap.size wr wx)→K7 {tmps:= #[z0,.slice (some ⟨b,o,none⟩) l.length c0,ptr w.heap.size,z3,z4,.slice (some ⟨bs,os,none⟩) L.length c,.slice A2 acc.length c2,ptr WL.heap.size,.int .i64 (k:Int),ptr p8,ptr p9,ptr p10,z12,z13,kD,kK,kF,z17,kL,jQ,z20,z21,z22,z23,z24,z25,z26,z27,z28,z29,z30,z31,z32,z33,z34,z35,z36,z37,z38,z39,z40,z41,z42,z43,z44,z45,z46,z47,z48,z49,z50,z51,z52,z53,z54,z55,z56,z57,z58,z59,z60,z61,z62,z63,z64,z65,z66,z67,z68,z69,z70,z71,z72,z73,z74,z75,z76,z77,z78,z79,z80,mM,z82,z83,z84,z85,z86,z87],defers:=[] } wx:=by
     intro p8 p9 p10 kF z17 kL jQ z20 z21 z22 z23 z24 z25 z26 z27 z28 z29 z30 z31 z32 z33 z34 z35 z36 z37 z38 z39 z40 z41 z42 z43 z44 z45 z46 z47 z48 z49 z50 z51 z52 z53 z54 z55 z56 z57 z58 z59 z60 z61 z62 z63 z64 z65 z66 z67 z68 z69 z70 z71 z72 z73 z74 z75 z76 z77 z78 z79 wx hrel
     refine hK7 _ _ ?_
     try dsimp only
     obtain ⟨h8,h9,h10,hn8,hn9,aqe,hbx⟩:=hrel
     have hIx:=hI.below hbx
     apply wp_seq_k
     intro K9 hK9
     have HK9:=hide hK9
     clear hK9
     apply wp_seq_k
     intro K9b aun
     have arO:=hide aun
     clear aun
     by_cases Vb:lg=0
     rotate_left
     · have q1:(lg != 0)=true:=by simpa using Vb
       have hnx:=VP.out
       rw [if_pos (.inl Vb)] at hnx
       have HNY:=hide hnx
       clear hnx Vb
       go_wp2_with (first | (refine aN 25 (.tmp 2) rfl ?_;refine aG ((((hT.hr.below hI.bw).below hbx))) Tryz.underlying25 rfl Zm rfl (.tmp 2) rfl rfl ?_) | (refine aN 25 (.tmp 2) rfl ?_;refine su ((((hT.hr.below hI.bw).below hbx))) Tryz.underlying25 rfl Zm rfl (.tmp 2) rfl rfl ?_) | (refine vg 25 (.tmp 2) rfl ?_;refine sD ((((hT.hr.below hI.bw).below hbx))) Tryz.underlying25 rfl Zm (.tmp 2) rfl rfl ?_) | (refine aN 42 (.tmp 9) rfl ?_;refine aG (h8) Tryz.underlying42 rfl Zc rfl (.tmp 9) rfl rfl ?_) | (refine aN 42 (.tmp 9) rfl ?_;refine su (h8) Tryz.underlying42 rfl Zc rfl (.tmp 9) rfl rfl ?_) | (refine vg 42 (.tmp 9) rfl ?_;refine sD (h8) Tryz.underlying42 rfl Zc (.tmp 9) rfl rfl ?_) | (refine aN 69 (.tmp 11) rfl ?_;refine aG (h10) Tryz.underlying69 rfl Zf rfl (.tmp 11) rfl rfl ?_) | (refine aN 69 (.tmp 11) rfl ?_;refine su (h10) Tryz.underlying69 rfl Zf rfl (.tmp 11) rfl rfl ?_) | (refine vg 69 (.tmp 11) rfl ?_;refine sD (h10) Tryz.underlying69 rfl Zf (.tmp 11) rfl rfl ?_) | (go_at_call 46;refine (QH.out _ (hI.bw.trans (hbx.mono hI.bw.size))).mono ?_;rintro e2 w2 ⟨rfl,hb2⟩;have akD:=h10.below hb2;have k10:=akD.cell (j:=1) rfl))
       refine arO.out _ _ ?_
       refine wp_cond_true rfl ?_
       have HI4:=hide (show RnI r l WL (k+1) now acc A2 c2 w2 from by
        have h:=hIx.below hb2
        exact ⟨h.bw,h.bx,h.own,h.p0,by have:=h.p1;push_cast;omega,by have:=h.al;omega,by rw [HS2.out];exact HNY.out.symm⟩)
       clear hIx hb2
       go_wp2
       go_roundw
       case rel=>exact ⟨k+1,now,acc,A2,c2,by omega,by go_num,by first | rfl | simp,HI4.out⟩
       case measure=>simp [intOf];omega
     · have q1:(lg != 0)=false:=by simpa using Vb
       have HLG:=hide Vb
       clear Vb
       by_cases hkd:e.x.kind=M.aT
       · have q2:(e.x.kind.toList == [99,111,110,99,101,100,101])=true:=by rw [hkd];decide+kernel
         have hnx:=VP.out
         rw [if_pos (.inr hkd)] at hnx
         have HNY:=hide hnx
         clear hnx hkd
         go_wp2_with (first | (refine aN 25 (.tmp 2) rfl ?_;refine aG ((((hT.hr.below hI.bw).below hbx))) Tryz.underlying25 rfl Zm rfl (.tmp 2) rfl rfl ?_) | (refine aN 25 (.tmp 2) rfl ?_;refine su ((((hT.hr.below hI.bw).below hbx))) Tryz.underlying25 rfl Zm rfl (.tmp 2) rfl rfl ?_) | (refine vg 25 (.tmp 2) rfl ?_;refine sD ((((hT.hr.below hI.bw).below hbx))) Tryz.underlying25 rfl Zm (.tmp 2) rfl rfl ?_) | (refine aN 42 (.tmp 9) rfl ?_;refine aG (h8) Tryz.underlying42 rfl Zc rfl (.tmp 9) rfl rfl ?_) | (refine aN 42 (.tmp 9) rfl ?_;refine su (h8) Tryz.underlying42 rfl Zc rfl (.tmp 9) rfl rfl ?_) | (refine vg 42 (.tmp 9) rfl ?_;refine sD (h8) Tryz.underlying42 rfl Zc (.tmp 9) rfl rfl ?_) | (refine aN 69 (.tmp 11) rfl ?_;refine aG (h10) Tryz.underlying69 rfl Zf rfl (.tmp 11) rfl rfl ?_) | (refine aN 69 (.tmp 11) rfl ?_;refine su (h10) Tryz.underlying69 rfl Zf rfl (.tmp 11) rfl rfl ?_) | (refine vg 69 (.tmp 11) rfl ?_;refine sD (h10) Tryz.underlying69 rfl Zf (.tmp 11) rfl rfl ?_) | (go_at_call 46;refine (QH.out _ (hI.bw.trans (hbx.mono hI.bw.size))).mono ?_;rintro e2 w2 ⟨rfl,hb2⟩;have akD:=h10.below hb2;have k10:=akD.cell (j:=1) rfl))
         refine arO.out _ _ ?_
         refine wp_cond_true rfl ?_
         have HI4:=hide (show RnI r l WL (k+1) now acc A2 c2 w2 from by
          have h:=hIx.below hb2
          exact ⟨h.bw,h.bx,h.own,h.p0,by have:=h.p1;push_cast;omega,by have:=h.al;omega,by rw [HS2.out];exact HNY.out.symm⟩)
         clear hIx hb2
         go_wp2
         go_roundw
         case rel=>exact ⟨k+1,now,acc,A2,c2,by omega,by go_num,by first | rfl | simp,HI4.out⟩
         case measure=>simp [intOf];omega
       · have q2:(e.x.kind.toList == [99,111,110,99,101,100,101])=false:=beq_eq_false_iff_ne.2 (bQ hkd)
         have Uy:=hide hkd
         clear hkd
         go_wp2_with (first | (refine aN 25 (.tmp 2) rfl ?_;refine aG ((((hT.hr.below hI.bw).below hbx))) Tryz.underlying25 rfl Zm rfl (.tmp 2) rfl rfl ?_) | (refine aN 25 (.tmp 2) rfl ?_;refine su ((((hT.hr.below hI.bw).below hbx))) Tryz.underlying25 rfl Zm rfl (.tmp 2) rfl rfl ?_) | (refine vg 25 (.tmp 2) rfl ?_;refine sD ((((hT.hr.below hI.bw).below hbx))) Tryz.underlying25 rfl Zm (.tmp 2) rfl rfl ?_) | (refine aN 42 (.tmp 9) rfl ?_;refine aG (h8) Tryz.underlying42 rfl Zc rfl (.tmp 9) rfl rfl ?_) | (refine aN 42 (.tmp 9) rfl ?_;refine su (h8) Tryz.underlying42 rfl Zc rfl (.tmp 9) rfl rfl ?_) | (refine vg 42 (.tmp 9) rfl ?_;refine sD (h8) Tryz.underlying42 rfl Zc (.tmp 9) rfl rfl ?_) | (refine aN 69 (.tmp 11) rfl ?_;refine aG (h10) Tryz.underlying69 rfl Zf rfl (.tmp 11) rfl rfl ?_) | (refine aN 69 (.tmp 11) rfl ?_;refine su (h10) Tryz.underlying69 rfl Zf rfl (.tmp 11) rfl rfl ?_) | (refine vg 69 (.tmp 11) rfl ?_;refine sD (h10) Tryz.underlying69 rfl Zf (.tmp 11) rfl rfl ?_) | (go_at_call 46;refine (QH.out _ (hI.bw.trans (hbx.mono hI.bw.size))).mono ?_;rintro e2 w2 ⟨rfl,hb2⟩;have akD:=h10.below hb2;have k10:=akD.cell (j:=1) rfl))
         refine arO.out _ _ ?_
         refine wp_cond_false rfl ?_
         go_wp2
         refine HK9.out _ _ ?_
         refine ZM (p:=fun W=>Code.wp _ _ _ _ W) (fun wz hwz=>?_)
         have hbz:Below wx.heap.size wx wz:=by rw [hwz];exact hb2
         have h8z:=h8.below hbz
         have h9z:=h9.below hbz
         have aeM:=h10.below hbz
         have hIz:=hIx.below hbz
         clear hwz hb2 akD k10 h8 h9 h10 hIx
         apply wp_seq_k
         intro K11 at7
         have J11:∀ (ab9:M.Run) (kF z17 kL jQ z20 z21 z22 z23 z24 z25 z26 z27 z28 z29 z30 z31 z32 z33 z34 z35 z36 z37 z38 z39 z40 z41 z42 z43 z44 z45 z46 z47 z48 z49 z50 z51 z52 z53 z54 z55 z56 z57 z58 z59 z60 z61 z62 z63 z64 z65 z66 z67 z68 z69 z70 z71 z72 z73 z74 z75 z76 z77 z78 z79:Value) (wx:World),(Held wx p8 (aW s1 As1 cs1) 42∧Held wx p9 (aW s2 As2 cs2) 42∧Held wx p10 (au e) 69∧Held wx WL.heap.size [.int .i64 ab9.aC,.int .i64 ab9.points] 62∧wx.ownsRow (WL.heap.size+1) 62 2 (.slice A2 acc.length c2) acc.length (acc.flatMap acX)∧Below WL.heap.size WL wx∧ab9=(if gd=true then M.Run.mk e.x.aC (now.points+(M.objects e.x).length) else now))→K11 {tmps:= #[z0,.slice (some ⟨b,o,none⟩) l.length c0,ptr w.heap.size,z3,z4,.slice (some ⟨bs,os,none⟩) L.length c,.slice A2 acc.length c2,ptr WL.heap.size,.int .i64 (k:Int),ptr p8,ptr p9,ptr p10,z12,z13,kD,kK,kF,z17,kL,jQ,z20,z21,z22,z23,z24,z25,z26,z27,z28,z29,z30,z31,z32,z33,z34,z35,z36,z37,z38,z39,z40,z41,z42,z43,z44,z45,z46,z47,z48,z49,z50,z51,z52,z53,z54,z55,z56,z57,z58,z59,z60,z61,z62,z63,z64,z65,z66,z67,z68,z69,z70,z71,z72,z73,z74,z75,z76,z77,z78,z79,z80,mM,z82,z83,z84,z85,z86,z87],defers:=[] } wx:=by
          intro ab9 kF z17 kL jQ z20 z21 z22 z23 z24 z25 z26 z27 z28 z29 z30 z31 z32 z33 z34 z35 z36 z37 z38 z39 z40 z41 z42 z43 z44 z45 z46 z47 z48 z49 z50 z51 z52 z53 z54 z55 z56 z57 z58 z59 z60 z61 z62 z63 z64 z65 z66 z67 z68 z69 z70 z71 z72 z73 z74 z75 z76 z77 z78 z79 wx hrel
          refine at7 _ _ ?_
          try dsimp only
          obtain ⟨h8,h9,h10,hN,hox,hbw,hn2⟩:=hrel
          have VK:=hide hn2
          clear hn2
          apply wp_seq_k
          intro K12 aug
          have J12:∀ (bt:Bool) (z9 z10 z11 kF z17 kL jQ z20 z21 z22 z23 z24 z25 z26 z27 z28 z29 z30 z31 z32 z33 z34 z35 z36 z37 z38 z39 z40 z41 z42 z43 z44 z45 z46 z47 z48 z49 z50 z51 z52 z53 z54 z55 z56 z57 z58 z59 z60 z61 z62 z63 z64 z65 z66 z67 z68 z69 z70 z71 z72 z73 z75 z76 z77 z78 z79:Value) (wx:World),(Held wx WL.heap.size [.int .i64 ab9.aC,.int .i64 ab9.points] 62∧wx.ownsRow (WL.heap.size+1) 62 2 (.slice A2 acc.length c2) acc.length (acc.flatMap acX)∧Below WL.heap.size WL wx∧bt=decide ((s2.turn≠s1.turn∨fo≠0)∧0<ab9.points))→K12 {tmps:= #[z0,.slice (some ⟨b,o,none⟩) l.length c0,ptr w.heap.size,z3,z4,.slice (some ⟨bs,os,none⟩) L.length c,.slice A2 acc.length c2,ptr WL.heap.size,.int .i64 (k:Int),z9,z10,z11,z12,z13,kD,kK,kF,z17,kL,jQ,z20,z21,z22,z23,z24,z25,z26,z27,z28,z29,z30,z31,z32,z33,z34,z35,z36,z37,z38,z39,z40,z41,z42,z43,z44,z45,z46,z47,z48,z49,z50,z51,z52,z53,z54,z55,z56,z57,z58,z59,z60,z61,z62,z63,z64,z65,z66,z67,z68,z69,z70,z71,z72,z73,.bool bt,z75,z76,z77,z78,z79,z80,mM,z82,z83,z84,z85,z86,z87],defers:=[] } wx:=by
           intro bt z9 z10 z11 kF z17 kL jQ z20 z21 z22 z23 z24 z25 z26 z27 z28 z29 z30 z31 z32 z33 z34 z35 z36 z37 z38 z39 z40 z41 z42 z43 z44 z45 z46 z47 z48 z49 z50 z51 z52 z53 z54 z55 z56 z57 z58 z59 z60 z61 z62 z63 z64 z65 z66 z67 z68 z69 z70 z71 z72 z73 z75 z76 z77 z78 z79 wx hrel
           refine aug _ _ ?_
           try dsimp only
           obtain ⟨hN,hox,hbw,hbt⟩:=hrel
           have hnx:=VP.out
           rw [if_neg (by rintro (h | h);exact h HLG.out;exact Uy.out h)] at hnx
           rw [← VK.out] at hnx
           have hal:=hI.al
           have hNl:=hN.lt
           cases bt with
           | true=>
             have hcn:=of_decide_eq_true hbt.symm
             rw [if_pos hcn] at hnx
             have HNY:=hide hnx
             clear hnx hbt hcn
             refine wp_cond_true rfl ?_
             go_wp2_with (first | (refine aN 62 (.tmp 7) rfl ?_;refine aG (hN) Tryz.underlying62 rfl acy rfl (.tmp 7) rfl rfl ?_) | (at_builtin;refine wpList_append_lies _ rfl _ _ _ rfl (WL.heap.size+1) 62 i0 (.agg #[.int .i64 0,.int .i64 0]) 2 16 Tryz.underlying59 hi0 hz0 hz1 hz2 rfl (by omega) _ _ _ rfl (hox.alloc _) ⟨wx.heap.size,0,none⟩ 1 1 [.int .i64 ab9.aC,.int .i64 ab9.points] rfl rfl (dK _ _ _ _ rfl) (by simp [Value.oneCell']) (by omega) (by simp only [maxLen];omega) (by omega) (by simp;omega) (wx.heap.size+1) (by simp) ?_))
             intro g1 cap w4 hown4 hgrow hat _
             have hge:∀ g,(Value.slice A2 acc.length c2).ownBlock=some g→WL.heap.size+1≤g:=fun g hg=>(bg hox hg).1
             have hN4:Held w4 WL.heap.size [.int .i64 ab9.aC,.int .i64 ab9.points] 62:=hN.blk (aaZ hgrow hNl (fun e=>by have:=hge _ e;omega))
             have hb4:Below WL.heap.size WL w4:=hbw.trans (anF hgrow (fun g hg=>by have:=hge g hg;omega) hbw.size)
             have hl4:(acc++[ab9]).length=acc.length+1:=by simp
             have Fp:(w4.setCells WL.heap.size 0 [.int .i64 0,.int .i64 0]).ownsRow (WL.heap.size+1) 62 2 (.slice (some ⟨g1,0,none⟩) (acc++[ab9]).length cap) (acc++[ab9]).length ((acc++[ab9]).flatMap acX):=by
              rw [hl4,List.flatMap_append]
              have:[ab9].flatMap acX=[.int .i64 ab9.aC,.int .i64 ab9.points]:=rfl
              rw [this]
              exact bT hown4 (fun g hg=>Held.lC (by have:=(bg hown4 hg).1;omega) _ _ _)
             have HI4:=hide (show RnI r l WL (k+1) ⟨0,0⟩ (acc++[ab9]) (some ⟨g1,0,none⟩) cap (w4.setCells WL.heap.size 0 [.int .i64 0,.int .i64 0]) from ⟨below_setCells _ (Nat.le_refl _) _ _ _ _ hb4,hN4.whole _ rfl,Fp,by simp,by simp;omega,by rw [hl4];omega,by rw [HS2.out];exact HNY.out.symm⟩)
             clear hown4 hgrow hat hge hb4 Fp hl4
             go_wp2_with (first | (refine aO 62 (.tmp 7) (.tmp 79) rfl ?_;refine aF (hN4) [.int .i64 0,.int .i64 0] rfl acy (by simp [Value.oneCell']) rfl (.tmp 7) (.tmp 79) rfl rfl rfl ?_))
             go_wp2
             go_roundw
             case rel=>exact ⟨k+1,⟨0,0⟩,acc++[ab9],some ⟨g1,0,none⟩,cap,by omega,by go_num,by first | rfl | simp,HI4.out⟩
             case measure=>simp [intOf];omega
           | false=>
             have hcn:=of_decide_eq_false hbt.symm
             rw [if_neg hcn] at hnx
             have hp0:=hI.p0
             have hp1:=hI.p1
             have hpp:0≤ab9.points∧ab9.points≤16*((k+1:Nat):Int):=by
              rw [VK.out]
              split
              · constructor <;> (simp only;push_cast;omega)
              · constructor <;> (push_cast;omega)
             have HI4:=hide (show RnI r l WL (k+1) ab9 acc A2 c2 wx from ⟨hbw,hN,hox,hpp.1,hpp.2,by omega,by rw [HS2.out];exact hnx.symm⟩)
             clear hnx hbt hcn hpp
             refine wp_cond_false rfl ?_
             go_wp2
             go_roundw
             case rel=>exact ⟨k+1,ab9,acc,A2,c2,by omega,by go_num,by first | rfl | simp,HI4.out⟩
             case measure=>simp [intOf];omega
          clear aug
          have amy:=hide J12
          clear J12
          have c8:=h8.cell (j:=0) rfl
          have c9:=h9.cell (j:=0) rfl
          have n0:=hN.cell (j:=1) rfl
          have HN:=hide hN
          have HOX:=hide hox
          by_cases ht:s2.turn=s1.turn
          · have q1:(s2.turn != s1.turn)=false:=by simpa using ht
            have HT:=hide ht
            clear ht
            by_cases hf:fo=0
            · have q2:(fo != 0)=false:=by simpa using hf
              have HF:=hide hf
              clear hf
              go_wp2_with (first | (refine aN 25 (.tmp 2) rfl ?_;refine aG ((hT.hr.below hbw)) Tryz.underlying25 rfl Zm rfl (.tmp 2) rfl rfl ?_) | (refine aN 25 (.tmp 2) rfl ?_;refine su ((hT.hr.below hbw)) Tryz.underlying25 rfl Zm rfl (.tmp 2) rfl rfl ?_) | (refine vg 25 (.tmp 2) rfl ?_;refine sD ((hT.hr.below hbw)) Tryz.underlying25 rfl Zm (.tmp 2) rfl rfl ?_) | (refine aN 42 (.tmp 9) rfl ?_;refine aG (h8) Tryz.underlying42 rfl Zc rfl (.tmp 9) rfl rfl ?_) | (refine aN 42 (.tmp 9) rfl ?_;refine su (h8) Tryz.underlying42 rfl Zc rfl (.tmp 9) rfl rfl ?_) | (refine vg 42 (.tmp 9) rfl ?_;refine sD (h8) Tryz.underlying42 rfl Zc (.tmp 9) rfl rfl ?_) | (refine aN 69 (.tmp 11) rfl ?_;refine aG (h10) Tryz.underlying69 rfl Zf rfl (.tmp 11) rfl rfl ?_) | (refine aN 69 (.tmp 11) rfl ?_;refine su (h10) Tryz.underlying69 rfl Zf rfl (.tmp 11) rfl rfl ?_) | (refine vg 69 (.tmp 11) rfl ?_;refine sD (h10) Tryz.underlying69 rfl Zf (.tmp 11) rfl rfl ?_) | (go_at_call 52;refine (WS.out _ hbw).mono ?_;rintro e2 w2 ⟨rfl,hb2⟩;have QM:=hN.below hb2;have n1:=QM.cell (j:=1) rfl))
              exact amy.out false _ _ _ _ _ _ _ _ _ _ _ _ _ _ _ _ _ _ _ _ _ _ _ _ _ _ _ _ _ _ _ _ _ _ _ _ _ _ _ _ _ _ _ _ _ _ _ _ _ _ _ _ _ _ _ _ _ _ _ _ _ _ _ _ _ _ _ ⟨QM,bT HOX.out (fun g hg=>hb2.block g (ar0 HOX.out hg)),VY hbw hb2,by rw [eq_comm,decide_eq_false_iff_not];rintro ⟨h | h,_⟩;exact h HT.out;exact h HF.out⟩
            · have q2:(fo != 0)=true:=by simpa using hf
              have HF:=hide hf
              clear hf
              by_cases hpz:0<ab9.points
              · have HPZ:=hide hpz
                go_wp2_with (first | (refine aN 25 (.tmp 2) rfl ?_;refine aG ((hT.hr.below hbw)) Tryz.underlying25 rfl Zm rfl (.tmp 2) rfl rfl ?_) | (refine aN 25 (.tmp 2) rfl ?_;refine su ((hT.hr.below hbw)) Tryz.underlying25 rfl Zm rfl (.tmp 2) rfl rfl ?_) | (refine vg 25 (.tmp 2) rfl ?_;refine sD ((hT.hr.below hbw)) Tryz.underlying25 rfl Zm (.tmp 2) rfl rfl ?_) | (refine aN 42 (.tmp 9) rfl ?_;refine aG (h8) Tryz.underlying42 rfl Zc rfl (.tmp 9) rfl rfl ?_) | (refine aN 42 (.tmp 9) rfl ?_;refine su (h8) Tryz.underlying42 rfl Zc rfl (.tmp 9) rfl rfl ?_) | (refine vg 42 (.tmp 9) rfl ?_;refine sD (h8) Tryz.underlying42 rfl Zc (.tmp 9) rfl rfl ?_) | (refine aN 69 (.tmp 11) rfl ?_;refine aG (h10) Tryz.underlying69 rfl Zf rfl (.tmp 11) rfl rfl ?_) | (refine aN 69 (.tmp 11) rfl ?_;refine su (h10) Tryz.underlying69 rfl Zf rfl (.tmp 11) rfl rfl ?_) | (refine vg 69 (.tmp 11) rfl ?_;refine sD (h10) Tryz.underlying69 rfl Zf (.tmp 11) rfl rfl ?_) | (go_at_call 52;refine (WS.out _ hbw).mono ?_;rintro e2 w2 ⟨rfl,hb2⟩;have QM:=hN.below hb2;have n1:=QM.cell (j:=1) rfl))
                exact amy.out true _ _ _ _ _ _ _ _ _ _ _ _ _ _ _ _ _ _ _ _ _ _ _ _ _ _ _ _ _ _ _ _ _ _ _ _ _ _ _ _ _ _ _ _ _ _ _ _ _ _ _ _ _ _ _ _ _ _ _ _ _ _ _ _ _ _ _ ⟨QM,bT HOX.out (fun g hg=>hb2.block g (ar0 HOX.out hg)),VY hbw hb2,by rw [eq_comm,decide_eq_true_eq];exact ⟨.inr HF.out,HPZ.out⟩⟩
              · have HPZ:=hide hpz
                have Pg:=decide_eq_false hpz
                clear hpz
                go_wp2_with (first | (refine aN 25 (.tmp 2) rfl ?_;refine aG ((hT.hr.below hbw)) Tryz.underlying25 rfl Zm rfl (.tmp 2) rfl rfl ?_) | (refine aN 25 (.tmp 2) rfl ?_;refine su ((hT.hr.below hbw)) Tryz.underlying25 rfl Zm rfl (.tmp 2) rfl rfl ?_) | (refine vg 25 (.tmp 2) rfl ?_;refine sD ((hT.hr.below hbw)) Tryz.underlying25 rfl Zm (.tmp 2) rfl rfl ?_) | (refine aN 42 (.tmp 9) rfl ?_;refine aG (h8) Tryz.underlying42 rfl Zc rfl (.tmp 9) rfl rfl ?_) | (refine aN 42 (.tmp 9) rfl ?_;refine su (h8) Tryz.underlying42 rfl Zc rfl (.tmp 9) rfl rfl ?_) | (refine vg 42 (.tmp 9) rfl ?_;refine sD (h8) Tryz.underlying42 rfl Zc (.tmp 9) rfl rfl ?_) | (refine aN 69 (.tmp 11) rfl ?_;refine aG (h10) Tryz.underlying69 rfl Zf rfl (.tmp 11) rfl rfl ?_) | (refine aN 69 (.tmp 11) rfl ?_;refine su (h10) Tryz.underlying69 rfl Zf rfl (.tmp 11) rfl rfl ?_) | (refine vg 69 (.tmp 11) rfl ?_;refine sD (h10) Tryz.underlying69 rfl Zf (.tmp 11) rfl rfl ?_) | (go_at_call 52;refine (WS.out _ hbw).mono ?_;rintro e2 w2 ⟨rfl,hb2⟩;have QM:=hN.below hb2;have n1:=QM.cell (j:=1) rfl))
                exact amy.out false _ _ _ _ _ _ _ _ _ _ _ _ _ _ _ _ _ _ _ _ _ _ _ _ _ _ _ _ _ _ _ _ _ _ _ _ _ _ _ _ _ _ _ _ _ _ _ _ _ _ _ _ _ _ _ _ _ _ _ _ _ _ _ _ _ _ _ ⟨QM,bT HOX.out (fun g hg=>hb2.block g (ar0 HOX.out hg)),VY hbw hb2,by rw [eq_comm,decide_eq_false_iff_not];exact fun h=>by have h1:=HPZ.out;have h2:=h.2;omega⟩
          · have q1:(s2.turn != s1.turn)=true:=by simpa using ht
            have HT:=hide ht
            clear ht
            by_cases hpz:0<ab9.points
            · have HPZ:=hide hpz
              go_wp2
              exact amy.out true _ _ _ _ _ _ _ _ _ _ _ _ _ _ _ _ _ _ _ _ _ _ _ _ _ _ _ _ _ _ _ _ _ _ _ _ _ _ _ _ _ _ _ _ _ _ _ _ _ _ _ _ _ _ _ _ _ _ _ _ _ _ _ _ _ _ _ ⟨HN.out,HOX.out,hbw,by rw [eq_comm,decide_eq_true_eq];exact ⟨.inl HT.out,HPZ.out⟩⟩
            · have HPZ:=hide hpz
              have Pg:=decide_eq_false hpz
              clear hpz
              go_wp2
              exact amy.out false _ _ _ _ _ _ _ _ _ _ _ _ _ _ _ _ _ _ _ _ _ _ _ _ _ _ _ _ _ _ _ _ _ _ _ _ _ _ _ _ _ _ _ _ _ _ _ _ _ _ _ _ _ _ _ _ _ _ _ _ _ _ _ _ _ _ _ ⟨HN.out,HOX.out,hbw,by rw [eq_comm,decide_eq_false_iff_not];exact fun h=>by have h1:=HPZ.out;have h2:=h.2;omega⟩
         clear at7
         have arG:=hide J11
         clear J11
         apply wp_seq_k
         intro Kg hKg
         have HKg:=hide hKg
         clear hKg
         go_wp2_with (first | (refine aN 25 (.tmp 2) rfl ?_;refine aG ((hT.hr.below hIz.bw)) Tryz.underlying25 rfl Zm rfl (.tmp 2) rfl rfl ?_) | (refine aN 25 (.tmp 2) rfl ?_;refine su ((hT.hr.below hIz.bw)) Tryz.underlying25 rfl Zm rfl (.tmp 2) rfl rfl ?_) | (refine vg 25 (.tmp 2) rfl ?_;refine sD ((hT.hr.below hIz.bw)) Tryz.underlying25 rfl Zm (.tmp 2) rfl rfl ?_) | (refine aN 42 (.tmp 9) rfl ?_;refine aG (h8z) Tryz.underlying42 rfl Zc rfl (.tmp 9) rfl rfl ?_) | (refine aN 42 (.tmp 9) rfl ?_;refine su (h8z) Tryz.underlying42 rfl Zc rfl (.tmp 9) rfl rfl ?_) | (refine vg 42 (.tmp 9) rfl ?_;refine sD (h8z) Tryz.underlying42 rfl Zc (.tmp 9) rfl rfl ?_) | (refine aN 69 (.tmp 11) rfl ?_;refine aG (aeM) Tryz.underlying69 rfl Zf rfl (.tmp 11) rfl rfl ?_) | (refine aN 69 (.tmp 11) rfl ?_;refine su (aeM) Tryz.underlying69 rfl Zf rfl (.tmp 11) rfl rfl ?_) | (refine vg 69 (.tmp 11) rfl ?_;refine sD (aeM) Tryz.underlying69 rfl Zf (.tmp 11) rfl rfl ?_) | (go_at_call 71;refine (WT.out _ hIz.bw).mono ?_;rintro e2 w3 ⟨rfl,hb3⟩))
         refine HKg.out _ _ ?_
         refine ZM (p:=fun W=>Code.wp _ _ _ _ W) (fun wy hwy=>?_)
         have hby:Below wz.heap.size wz wy:=by rw [hwy];exact hb3
         clear hwy hb3
         obtain ⟨h8z,h9z,aeM,hIz⟩:Held wy p8 (aW s1 As1 cs1) 42∧Held wy p9 (aW s2 As2 cs2) 42∧Held wy p10 (au e) 69∧RnI r l WL k now acc A2 c2 wy:=⟨h8z.below hby,h9z.below hby,aeM.below hby,hIz.below hby⟩
         obtain ⟨wz,rfl⟩:∃ q,q=wy:=⟨_,rfl⟩
         clear hby
         cases gd with
         | false=>
           refine wp_cond_false rfl ?_
           go_wp2
           exact arG.out now _ _ _ _ _ _ _ _ _ _ _ _ _ _ _ _ _ _ _ _ _ _ _ _ _ _ _ _ _ _ _ _ _ _ _ _ _ _ _ _ _ _ _ _ _ _ _ _ _ _ _ _ _ _ _ _ _ _ _ _ _ _ _ _ _ ⟨h8z,h9z,aeM,hIz.bx,hIz.own,hIz.bw,rfl⟩
         | true=>
           refine wp_cond_true rfl ?_
           have l8:=h8z.lt
           have l9:=h9z.lt
           have l10:=aeM.lt
           have m1:=hIz.bx.cell (j:=1) rfl
           have hw:IntKind.i64.wrap (now.points+((M.objects e.x).length:Int))=now.points+((M.objects e.x).length:Int):=IntWalk.i64_in _ (by have:=hI.p0;have:=hI.p1;omega)
           have Sz:∀ W',(fun w':World=>wz.heap.size≤w'.heap.size∧∀ p q,p<wz.heap.size→p≠WL.heap.size→w'.cell? ⟨p,q,none⟩=wz.cell? ⟨p,q,none⟩) W'→W'.rangeAt p10 0 (au e):=fun W' h j v hj=>by rw [h.2 _ _ l10 aqe];exact aeM.range j v hj
           have Si:∀ W':World,wz.heap.size≤W'.heap.size∧(∀ p q,p<wz.heap.size→p≠WL.heap.size→W'.cell? ⟨p,q,none⟩=wz.cell? ⟨p,q,none⟩)→W'.cell? ⟨p10,0,none⟩=some (.int .i64 e.x.aC):=fun W' h=>by rw [h.2 _ _ l10 aqe];exact aeM.cell (j:=0) rfl
           refine wp_region_held_drew (S:=(fun w':World=>wz.heap.size≤w'.heap.size∧∀ p q,p<wz.heap.size→p≠WL.heap.size→w'.cell? ⟨p,q,none⟩=wz.cell? ⟨p,q,none⟩)) (by kernel_rfl) ?Nl (fun hHeld=>?_)
           case Nl=>exact ⟨Nat.le_refl _,fun p q _ _=>rfl⟩
           refine tk 0 ?_
           refine tk 1 ?_
           refine tk 2 ?_
           refine wpAnyH_take (i:=4) (oi:=_) (v:=_) (ga rfl) (by kernel_rfl) (by kernel_rfl) (by kernel_rfl) (fun _ _ _ h=>h) (yieldsIf_load_mid (by rfl) _ _ (by rfl) _ _ (by rfl) _ _ Sz Tryz.underlying69 rfl (by kernel_rfl)) (by assumption) ?_
           try simp only [Act.put,la,lz,ls]
           refine wpAnyH_ready (rs:=[3,5]) (by kernel_rfl) (by simp) ?_
           refine AllReadyH.cons (o:=_) (ga rfl) (fun K hK=>?_) (AllReadyH.cons (o:=_) (ga rfl) (fun K hK=>?_) AllReadyH.nil)
           · go_simp
             refine hK.out _ _ ?aoC (fun hHeld=>?_)
             case aoC=>(exact hHeld)
             clear hK K
             try simp only [Act.put,la,lz,ls]
             refine tr 5 fun K hK=>?_
             go_simp
             (go_at_call 72;refine (TY.out _ hIz.bw.drew).mono ?_;rintro e2 w3 ⟨A3,c3,rfl,_,hb3⟩;have m1:=(Held.below (show Held wz.drew WL.heap.size _ _ from hIz.bx) hb3).cell (j:=1) rfl)
             refine hK.out _ _ ?aoS (fun hHeld=>?_)
             case aoS=>(exact ⟨hb3.size,fun p q hp _=>hb3.cell (p:=⟨p,q,none⟩) hp⟩)
             clear hK K
             try simp only [Act.put,la,lz,ls]
             refine tk 6 ?_
             refine tk 7 ?_
             refine tk 8 ?_
             refine ZM (p:=fun W=>wpAnyH _ _ _ _ _ _ _ _ W) (fun X hX=>?_)
             have hbX:Below wz.heap.size wz X:=by rw [hX];exact ((Below.refl wz.heap.size wz).drew).trans hb3
             clear hX hHeld
             have l8:=h8z.lt
             have l9:=h9z.lt
             have l10:=aeM.lt
             have hIX:=hIz.below hbX
             refine wpAnyH_ready (rs:=[9]) (by kernel_rfl) (by simp) ?_
             refine ak1 (o:=_) (ga rfl) (by kernel_rfl) hIX.bx [.int .i64 e.x.aC,.int .i64 (now.points+(M.objects e.x).length)] rfl acy (by simp [Value.oneCell']) (.tmp 7) (.tmp 57) rfl rfl rfl ⟨by rw [setCells_size];exact hbX.size,fun p q hp hn=>(kN _ _ _ _ hn).trans (hbX.cell (p:=⟨p,q,none⟩) hp)⟩ ?_
             try simp only [Act.put,la,lz,ls]
             refine wpAnyH_done (by kernel_rfl) ?_ _
             exact arG.out ⟨e.x.aC,now.points+(M.objects e.x).length⟩ _ _ _ _ _ _ _ _ _ _ _ _ _ _ _ _ _ _ _ _ _ _ _ _ _ _ _ _ _ _ _ _ _ _ _ _ _ _ _ _ _ _ _ _ _ _ _ _ _ _ _ _ _ _ _ _ _ _ _ _ _ _ _ _ _ ⟨Held.others hn8 _ _ _ (h8z.below hbX),Held.others hn9 _ _ _ (h9z.below hbX),Held.others aqe _ _ _ (aeM.below hbX),hIX.bx.whole _ rfl,bT hIX.own (fun g hg=>Held.lC (by have:=(bg hIX.own hg).1;omega) _ _ _),below_setCells _ (Nat.le_refl _) _ _ _ _ hIX.bw,rfl⟩
           · go_simp
             (go_at_call 72;refine (TY.out _ hIz.bw.drew).mono ?_;rintro e2 w3 ⟨A3,c3,rfl,_,hb3⟩;have m1:=(Held.below (show Held wz.drew WL.heap.size _ _ from hIz.bx) hb3).cell (j:=1) rfl)
             refine hK.out _ _ ?ao0 (fun hHeld=>?_)
             case ao0=>(exact ⟨hb3.size,fun p q hp _=>hb3.cell (p:=⟨p,q,none⟩) hp⟩)
             clear hK K
             try simp only [Act.put,la,lz,ls]
             refine tk 6 ?_
             refine tr 3 fun K hK=>?_
             go_simp
             refine hK.out _ _ ?aoK (fun hHeld=>?_)
             case aoK=>(exact hHeld)
             clear hK K
             try simp only [Act.put,la,lz,ls]
             refine tk 7 ?_
             refine tk 8 ?_
             refine ZM (p:=fun W=>wpAnyH _ _ _ _ _ _ _ _ W) (fun X hX=>?_)
             have hbX:Below wz.heap.size wz X:=by rw [hX];exact ((Below.refl wz.heap.size wz).drew).trans hb3
             clear hX hHeld
             have l8:=h8z.lt
             have l9:=h9z.lt
             have l10:=aeM.lt
             have hIX:=hIz.below hbX
             refine wpAnyH_ready (rs:=[9]) (by kernel_rfl) (by simp) ?_
             refine ak1 (o:=_) (ga rfl) (by kernel_rfl) hIX.bx [.int .i64 e.x.aC,.int .i64 (now.points+(M.objects e.x).length)] rfl acy (by simp [Value.oneCell']) (.tmp 7) (.tmp 57) rfl rfl rfl ⟨by rw [setCells_size];exact hbX.size,fun p q hp hn=>(kN _ _ _ _ hn).trans (hbX.cell (p:=⟨p,q,none⟩) hp)⟩ ?_
             try simp only [Act.put,la,lz,ls]
             refine wpAnyH_done (by kernel_rfl) ?_ _
             exact arG.out ⟨e.x.aC,now.points+(M.objects e.x).length⟩ _ _ _ _ _ _ _ _ _ _ _ _ _ _ _ _ _ _ _ _ _ _ _ _ _ _ _ _ _ _ _ _ _ _ _ _ _ _ _ _ _ _ _ _ _ _ _ _ _ _ _ _ _ _ _ _ _ _ _ _ _ _ _ _ _ ⟨Held.others hn8 _ _ _ (h8z.below hbX),Held.others hn9 _ _ _ (h9z.below hbX),Held.others aqe _ _ _ (aeM.below hbX),hIX.bx.whole _ rfl,bT hIX.own (fun g hg=>Held.lC (by have:=(bg hIX.own hg).1;omega) _ _ _),below_setCells _ (Nat.le_refl _) _ _ _ _ hIX.bw,rfl⟩
    clear hK7
    have HJ7:=hide J7
    clear J7
    refine wp_region_held_drew (S:=(fun w':World=>Below wr.heap.size wr w')) (by kernel_rfl) ?ao9 (fun hHeld=>?_)
    case ao9=>exact (Below.refl _ _).drew
    refine tk 0 ?_
    refine tk 1 ?_
    refine tk 2 ?_
    refine wpAnyH_take (i:=3) (oi:=_) (v:=_) (ga rfl) (by kernel_rfl) (by kernel_rfl) (by kernel_rfl) (fun _ _ _ h=>h) (yieldsIf_load_mid (by rfl) _ _ (by rfl) _ _ (by rfl) _ _ hr3 Tryz.underlying42 rfl (by kernel_rfl)) (by assumption) ?_
    try simp only [Act.put,la,lz,ls]
    refine tk 4 ?_
    refine tk 5 ?_
    refine tk 6 ?_
    refine tk 7 ?_
    refine wpAnyH_take (i:=8) (oi:=_) (v:=_) (ga rfl) (by kernel_rfl) (by kernel_rfl) (by kernel_rfl) (fun _ _ _ h=>h) (yieldsIf_load_mid (by rfl) _ _ (by rfl) _ _ (by rfl) _ _ Wu Tryz.underlying42 rfl (by kernel_rfl)) (by assumption) ?_
    try simp only [Act.put,la,lz,ls]
    refine tk 9 ?_
    refine tk 10 ?_
    refine tk 11 ?_
    refine wpAnyH_take (i:=12) (oi:=_) (v:=_) (ga rfl) (by kernel_rfl) (by kernel_rfl) (by kernel_rfl) (fun _ _ _ h=>h) (yieldsIf_load_mid (by rfl) _ _ (by rfl) _ _ (by rfl) _ _ SA Tryz.underlying69 rfl (by kernel_rfl)) (by assumption) ?_
    try simp only [Act.put,la,lz,ls]
    refine wpAnyH_ready (rs:=[13,14,15]) (by kernel_rfl) (by simp) ?_
    refine AllReadyH.cons (o:=_) (ga rfl) (fun K hK=>?_) (AllReadyH.cons (o:=_) (ga rfl) (fun K hK=>?_) (AllReadyH.cons (o:=_) (ga rfl) (fun K hK=>?_) AllReadyH.nil))
    · go_simp
      refine hK.out _ _ ?ali (fun hHeld=>?_)
      case ali=>(exact Below.alloc hHeld hHeld.size _)
      clear hK K
      try simp only [Act.put,la,lz,ls]
      refine wpAnyH_ready (rs:=[14,15]) (by kernel_rfl) (by simp) ?_
      refine AllReadyH.cons (o:=_) (ga rfl) (fun K hK=>?_) (AllReadyH.cons (o:=_) (ga rfl) (fun K hK=>?_) AllReadyH.nil)
      · go_simp
        refine hK.out _ _ ?alr (fun hHeld=>?_)
        case alr=>(exact Below.alloc hHeld hHeld.size _)
        clear hK K
        try simp only [Act.put,la,lz,ls]
        refine tr 15 fun K hK=>?_
        go_simp
        refine hK.out _ _ ?alS (fun hHeld=>?_)
        case alS=>(exact Below.alloc hHeld hHeld.size _)
        clear hK K
        try simp only [Act.put,la,lz,ls]
        refine ZM (p:=fun W=>wpAnyH _ _ _ _ _ _ _ _ W) (fun X hX=>?_)
        have hHX:Below wr.heap.size wr X:=by rw [hX];exact hHeld
        have g13:Held X (wr.heap.size) aj 42:=by rw [hX];exact (((Held.newAt _ aj 42 (by first | rfl | simp)).alloc _).alloc _)
        have g14:Held X (wr.heap.size+1) aj 42:=by rw [hX];exact ((Held.newAt _ aj 42 (by first | rfl | simp)).alloc _)
        have g15:Held X (wr.heap.size+2) JB 69:=by rw [hX];exact (Held.newAt _ JB 69 (by first | rfl | simp))
        clear hX hHeld
        refine wpAnyH_ready (rs:=[16]) (by kernel_rfl) (by simp) ?_
        refine ak1 (o:=_) (ga rfl) (by kernel_rfl) g13 (aW s1 As1 cs1) rfl Zc (dL _ _ _) (.tmp 9) (.tmp 25) rfl rfl rfl (below_setCells _ (by omega) _ _ _ _ hHX) ?_
        try simp only [Act.put,la,lz,ls]
        refine wpAnyH_ready (rs:=[17]) (by kernel_rfl) (by simp) ?_
        refine ak1 (o:=_) (ga rfl) (by kernel_rfl) (Held.others (by omega) _ _ _ g14) (aW s2 As2 cs2) rfl Zc (dL _ _ _) (.tmp 10) (.tmp 30) rfl rfl rfl (below_setCells _ (by omega) _ _ _ _ (below_setCells _ (by omega) _ _ _ _ hHX)) ?_
        try simp only [Act.put,la,lz,ls]
        refine wpAnyH_ready (rs:=[18]) (by kernel_rfl) (by simp) ?_
        refine ak1 (o:=_) (ga rfl) (by kernel_rfl) (Held.others (by omega) _ _ _ (Held.others (by omega) _ _ _ g15)) (au e) rfl Zf (uq _ _ _) (.tmp 11) (.tmp 34) rfl rfl rfl (below_setCells _ (by omega) _ _ _ _ (below_setCells _ (by omega) _ _ _ _ (below_setCells _ (by omega) _ _ _ _ hHX))) ?_
        try simp only [Act.put,la,lz,ls]
        refine wpAnyH_done (by kernel_rfl) ?_ _
        have hwl:=hI.bx.lt
        exact HJ7.out _ _ _ _ _ _ _ _ _ _ _ _ _ _ _ _ _ _ _ _ _ _ _ _ _ _ _ _ _ _ _ _ _ _ _ _ _ _ _ _ _ _ _ _ _ _ _ _ _ _ _ _ _ _ _ _ _ _ _ _ _ _ _ _ _ _ _ _ (ag6 (aeE g13 g14 g15 (by omega) (by omega) (by omega) rfl rfl rfl (below_setCells _ (by omega) _ _ _ _ (below_setCells _ (by omega) _ _ _ _ (below_setCells _ (by omega) _ _ _ _ hHX)))) (by omega) (by omega) (by omega))
      · go_simp
        refine hK.out _ _ ?al0 (fun hHeld=>?_)
        case al0=>(exact Below.alloc hHeld hHeld.size _)
        clear hK K
        try simp only [Act.put,la,lz,ls]
        refine tr 14 fun K hK=>?_
        go_simp
        refine hK.out _ _ ?alB (fun hHeld=>?_)
        case alB=>(exact Below.alloc hHeld hHeld.size _)
        clear hK K
        try simp only [Act.put,la,lz,ls]
        refine ZM (p:=fun W=>wpAnyH _ _ _ _ _ _ _ _ W) (fun X hX=>?_)
        have hHX:Below wr.heap.size wr X:=by rw [hX];exact hHeld
        have g13:Held X (wr.heap.size) aj 42:=by rw [hX];exact (((Held.newAt _ aj 42 (by first | rfl | simp)).alloc _).alloc _)
        have g14:Held X (wr.heap.size+2) aj 42:=by rw [hX];exact (Held.newAt _ aj 42 (by first | rfl | simp))
        have g15:Held X (wr.heap.size+1) JB 69:=by rw [hX];exact ((Held.newAt _ JB 69 (by first | rfl | simp)).alloc _)
        clear hX hHeld
        refine wpAnyH_ready (rs:=[16]) (by kernel_rfl) (by simp) ?_
        refine ak1 (o:=_) (ga rfl) (by kernel_rfl) g13 (aW s1 As1 cs1) rfl Zc (dL _ _ _) (.tmp 9) (.tmp 25) rfl rfl rfl (below_setCells _ (by omega) _ _ _ _ hHX) ?_
        try simp only [Act.put,la,lz,ls]
        refine wpAnyH_ready (rs:=[17]) (by kernel_rfl) (by simp) ?_
        refine ak1 (o:=_) (ga rfl) (by kernel_rfl) (Held.others (by omega) _ _ _ g14) (aW s2 As2 cs2) rfl Zc (dL _ _ _) (.tmp 10) (.tmp 30) rfl rfl rfl (below_setCells _ (by omega) _ _ _ _ (below_setCells _ (by omega) _ _ _ _ hHX)) ?_
        try simp only [Act.put,la,lz,ls]
        refine wpAnyH_ready (rs:=[18]) (by kernel_rfl) (by simp) ?_
        refine ak1 (o:=_) (ga rfl) (by kernel_rfl) (Held.others (by omega) _ _ _ (Held.others (by omega) _ _ _ g15)) (au e) rfl Zf (uq _ _ _) (.tmp 11) (.tmp 34) rfl rfl rfl (below_setCells _ (by omega) _ _ _ _ (below_setCells _ (by omega) _ _ _ _ (below_setCells _ (by omega) _ _ _ _ hHX))) ?_
        try simp only [Act.put,la,lz,ls]
        refine wpAnyH_done (by kernel_rfl) ?_ _
        have hwl:=hI.bx.lt
        exact HJ7.out _ _ _ _ _ _ _ _ _ _ _ _ _ _ _ _ _ _ _ _ _ _ _ _ _ _ _ _ _ _ _ _ _ _ _ _ _ _ _ _ _ _ _ _ _ _ _ _ _ _ _ _ _ _ _ _ _ _ _ _ _ _ _ _ _ _ _ _ (ag6 (aeE g13 g14 g15 (by omega) (by omega) (by omega) rfl rfl rfl (below_setCells _ (by omega) _ _ _ _ (below_setCells _ (by omega) _ _ _ _ (below_setCells _ (by omega) _ _ _ _ hHX)))) (by omega) (by omega) (by omega))
    · go_simp
      refine hK.out _ _ ?alJ (fun hHeld=>?_)
      case alJ=>(exact Below.alloc hHeld hHeld.size _)
      clear hK K
      try simp only [Act.put,la,lz,ls]
      refine wpAnyH_ready (rs:=[13,15]) (by kernel_rfl) (by simp) ?_
      refine AllReadyH.cons (o:=_) (ga rfl) (fun K hK=>?_) (AllReadyH.cons (o:=_) (ga rfl) (fun K hK=>?_) AllReadyH.nil)
      · go_simp
        refine hK.out _ _ ?ai8 (fun hHeld=>?_)
        case ai8=>(exact Below.alloc hHeld hHeld.size _)
        clear hK K
        try simp only [Act.put,la,lz,ls]
        refine tr 15 fun K hK=>?_
        go_simp
        refine hK.out _ _ ?ajV (fun hHeld=>?_)
        case ajV=>(exact Below.alloc hHeld hHeld.size _)
        clear hK K
        try simp only [Act.put,la,lz,ls]
        refine ZM (p:=fun W=>wpAnyH _ _ _ _ _ _ _ _ W) (fun X hX=>?_)
        have hHX:Below wr.heap.size wr X:=by rw [hX];exact hHeld
        have g13:Held X (wr.heap.size+1) aj 42:=by rw [hX];exact ((Held.newAt _ aj 42 (by first | rfl | simp)).alloc _)
        have g14:Held X (wr.heap.size) aj 42:=by rw [hX];exact (((Held.newAt _ aj 42 (by first | rfl | simp)).alloc _).alloc _)
        have g15:Held X (wr.heap.size+2) JB 69:=by rw [hX];exact (Held.newAt _ JB 69 (by first | rfl | simp))
        clear hX hHeld
        refine wpAnyH_ready (rs:=[16]) (by kernel_rfl) (by simp) ?_
        refine ak1 (o:=_) (ga rfl) (by kernel_rfl) g13 (aW s1 As1 cs1) rfl Zc (dL _ _ _) (.tmp 9) (.tmp 25) rfl rfl rfl (below_setCells _ (by omega) _ _ _ _ hHX) ?_
        try simp only [Act.put,la,lz,ls]
        refine wpAnyH_ready (rs:=[17]) (by kernel_rfl) (by simp) ?_
        refine ak1 (o:=_) (ga rfl) (by kernel_rfl) (Held.others (by omega) _ _ _ g14) (aW s2 As2 cs2) rfl Zc (dL _ _ _) (.tmp 10) (.tmp 30) rfl rfl rfl (below_setCells _ (by omega) _ _ _ _ (below_setCells _ (by omega) _ _ _ _ hHX)) ?_
        try simp only [Act.put,la,lz,ls]
        refine wpAnyH_ready (rs:=[18]) (by kernel_rfl) (by simp) ?_
        refine ak1 (o:=_) (ga rfl) (by kernel_rfl) (Held.others (by omega) _ _ _ (Held.others (by omega) _ _ _ g15)) (au e) rfl Zf (uq _ _ _) (.tmp 11) (.tmp 34) rfl rfl rfl (below_setCells _ (by omega) _ _ _ _ (below_setCells _ (by omega) _ _ _ _ (below_setCells _ (by omega) _ _ _ _ hHX))) ?_
        try simp only [Act.put,la,lz,ls]
        refine wpAnyH_done (by kernel_rfl) ?_ _
        have hwl:=hI.bx.lt
        exact HJ7.out _ _ _ _ _ _ _ _ _ _ _ _ _ _ _ _ _ _ _ _ _ _ _ _ _ _ _ _ _ _ _ _ _ _ _ _ _ _ _ _ _ _ _ _ _ _ _ _ _ _ _ _ _ _ _ _ _ _ _ _ _ _ _ _ _ _ _ _ (ag6 (aeE g13 g14 g15 (by omega) (by omega) (by omega) rfl rfl rfl (below_setCells _ (by omega) _ _ _ _ (below_setCells _ (by omega) _ _ _ _ (below_setCells _ (by omega) _ _ _ _ hHX)))) (by omega) (by omega) (by omega))
      · go_simp
        refine hK.out _ _ ?aj3 (fun hHeld=>?_)
        case aj3=>(exact Below.alloc hHeld hHeld.size _)
        clear hK K
        try simp only [Act.put,la,lz,ls]
        refine tr 13 fun K hK=>?_
        go_simp
        refine hK.out _ _ ?ajg (fun hHeld=>?_)
        case ajg=>(exact Below.alloc hHeld hHeld.size _)
        clear hK K
        try simp only [Act.put,la,lz,ls]
        refine ZM (p:=fun W=>wpAnyH _ _ _ _ _ _ _ _ W) (fun X hX=>?_)
        have hHX:Below wr.heap.size wr X:=by rw [hX];exact hHeld
        have g13:Held X (wr.heap.size+2) aj 42:=by rw [hX];exact (Held.newAt _ aj 42 (by first | rfl | simp))
        have g14:Held X (wr.heap.size) aj 42:=by rw [hX];exact (((Held.newAt _ aj 42 (by first | rfl | simp)).alloc _).alloc _)
        have g15:Held X (wr.heap.size+1) JB 69:=by rw [hX];exact ((Held.newAt _ JB 69 (by first | rfl | simp)).alloc _)
        clear hX hHeld
        refine wpAnyH_ready (rs:=[16]) (by kernel_rfl) (by simp) ?_
        refine ak1 (o:=_) (ga rfl) (by kernel_rfl) g13 (aW s1 As1 cs1) rfl Zc (dL _ _ _) (.tmp 9) (.tmp 25) rfl rfl rfl (below_setCells _ (by omega) _ _ _ _ hHX) ?_
        try simp only [Act.put,la,lz,ls]
        refine wpAnyH_ready (rs:=[17]) (by kernel_rfl) (by simp) ?_
        refine ak1 (o:=_) (ga rfl) (by kernel_rfl) (Held.others (by omega) _ _ _ g14) (aW s2 As2 cs2) rfl Zc (dL _ _ _) (.tmp 10) (.tmp 30) rfl rfl rfl (below_setCells _ (by omega) _ _ _ _ (below_setCells _ (by omega) _ _ _ _ hHX)) ?_
        try simp only [Act.put,la,lz,ls]
        refine wpAnyH_ready (rs:=[18]) (by kernel_rfl) (by simp) ?_
        refine ak1 (o:=_) (ga rfl) (by kernel_rfl) (Held.others (by omega) _ _ _ (Held.others (by omega) _ _ _ g15)) (au e) rfl Zf (uq _ _ _) (.tmp 11) (.tmp 34) rfl rfl rfl (below_setCells _ (by omega) _ _ _ _ (below_setCells _ (by omega) _ _ _ _ (below_setCells _ (by omega) _ _ _ _ hHX))) ?_
        try simp only [Act.put,la,lz,ls]
        refine wpAnyH_done (by kernel_rfl) ?_ _
        have hwl:=hI.bx.lt
        exact HJ7.out _ _ _ _ _ _ _ _ _ _ _ _ _ _ _ _ _ _ _ _ _ _ _ _ _ _ _ _ _ _ _ _ _ _ _ _ _ _ _ _ _ _ _ _ _ _ _ _ _ _ _ _ _ _ _ _ _ _ _ _ _ _ _ _ _ _ _ _ (ag6 (aeE g13 g14 g15 (by omega) (by omega) (by omega) rfl rfl rfl (below_setCells _ (by omega) _ _ _ _ (below_setCells _ (by omega) _ _ _ _ (below_setCells _ (by omega) _ _ _ _ hHX)))) (by omega) (by omega) (by omega))
    · go_simp
      refine hK.out _ _ ?akf (fun hHeld=>?_)
      case akf=>(exact Below.alloc hHeld hHeld.size _)
      clear hK K
      try simp only [Act.put,la,lz,ls]
      refine wpAnyH_ready (rs:=[13,14]) (by kernel_rfl) (by simp) ?_
      refine AllReadyH.cons (o:=_) (ga rfl) (fun K hK=>?_) (AllReadyH.cons (o:=_) (ga rfl) (fun K hK=>?_) AllReadyH.nil)
      · go_simp
        refine hK.out _ _ ?ajp (fun hHeld=>?_)
        case ajp=>(exact Below.alloc hHeld hHeld.size _)
        clear hK K
        try simp only [Act.put,la,lz,ls]
        refine tr 14 fun K hK=>?_
        go_simp
        refine hK.out _ _ ?ajF (fun hHeld=>?_)
        case ajF=>(exact Below.alloc hHeld hHeld.size _)
        clear hK K
        try simp only [Act.put,la,lz,ls]
        refine ZM (p:=fun W=>wpAnyH _ _ _ _ _ _ _ _ W) (fun X hX=>?_)
        have hHX:Below wr.heap.size wr X:=by rw [hX];exact hHeld
        have g13:Held X (wr.heap.size+1) aj 42:=by rw [hX];exact ((Held.newAt _ aj 42 (by first | rfl | simp)).alloc _)
        have g14:Held X (wr.heap.size+2) aj 42:=by rw [hX];exact (Held.newAt _ aj 42 (by first | rfl | simp))
        have g15:Held X (wr.heap.size) JB 69:=by rw [hX];exact (((Held.newAt _ JB 69 (by first | rfl | simp)).alloc _).alloc _)
        clear hX hHeld
        refine wpAnyH_ready (rs:=[16]) (by kernel_rfl) (by simp) ?_
        refine ak1 (o:=_) (ga rfl) (by kernel_rfl) g13 (aW s1 As1 cs1) rfl Zc (dL _ _ _) (.tmp 9) (.tmp 25) rfl rfl rfl (below_setCells _ (by omega) _ _ _ _ hHX) ?_
        try simp only [Act.put,la,lz,ls]
        refine wpAnyH_ready (rs:=[17]) (by kernel_rfl) (by simp) ?_
        refine ak1 (o:=_) (ga rfl) (by kernel_rfl) (Held.others (by omega) _ _ _ g14) (aW s2 As2 cs2) rfl Zc (dL _ _ _) (.tmp 10) (.tmp 30) rfl rfl rfl (below_setCells _ (by omega) _ _ _ _ (below_setCells _ (by omega) _ _ _ _ hHX)) ?_
        try simp only [Act.put,la,lz,ls]
        refine wpAnyH_ready (rs:=[18]) (by kernel_rfl) (by simp) ?_
        refine ak1 (o:=_) (ga rfl) (by kernel_rfl) (Held.others (by omega) _ _ _ (Held.others (by omega) _ _ _ g15)) (au e) rfl Zf (uq _ _ _) (.tmp 11) (.tmp 34) rfl rfl rfl (below_setCells _ (by omega) _ _ _ _ (below_setCells _ (by omega) _ _ _ _ (below_setCells _ (by omega) _ _ _ _ hHX))) ?_
        try simp only [Act.put,la,lz,ls]
        refine wpAnyH_done (by kernel_rfl) ?_ _
        have hwl:=hI.bx.lt
        exact HJ7.out _ _ _ _ _ _ _ _ _ _ _ _ _ _ _ _ _ _ _ _ _ _ _ _ _ _ _ _ _ _ _ _ _ _ _ _ _ _ _ _ _ _ _ _ _ _ _ _ _ _ _ _ _ _ _ _ _ _ _ _ _ _ _ _ _ _ _ _ (ag6 (aeE g13 g14 g15 (by omega) (by omega) (by omega) rfl rfl rfl (below_setCells _ (by omega) _ _ _ _ (below_setCells _ (by omega) _ _ _ _ (below_setCells _ (by omega) _ _ _ _ hHX)))) (by omega) (by omega) (by omega))
      · go_simp
        refine hK.out _ _ ?ajN (fun hHeld=>?_)
        case ajN=>(exact Below.alloc hHeld hHeld.size _)
        clear hK K
        try simp only [Act.put,la,lz,ls]
        refine tr 13 fun K hK=>?_
        go_simp
        refine hK.out _ _ ?ajx (fun hHeld=>?_)
        case ajx=>(exact Below.alloc hHeld hHeld.size _)
        clear hK K
        try simp only [Act.put,la,lz,ls]
        refine ZM (p:=fun W=>wpAnyH _ _ _ _ _ _ _ _ W) (fun X hX=>?_)
        have hHX:Below wr.heap.size wr X:=by rw [hX];exact hHeld
        have g13:Held X (wr.heap.size+2) aj 42:=by rw [hX];exact (Held.newAt _ aj 42 (by first | rfl | simp))
        have g14:Held X (wr.heap.size+1) aj 42:=by rw [hX];exact ((Held.newAt _ aj 42 (by first | rfl | simp)).alloc _)
        have g15:Held X (wr.heap.size) JB 69:=by rw [hX];exact (((Held.newAt _ JB 69 (by first | rfl | simp)).alloc _).alloc _)
        clear hX hHeld
        refine wpAnyH_ready (rs:=[16]) (by kernel_rfl) (by simp) ?_
        refine ak1 (o:=_) (ga rfl) (by kernel_rfl) g13 (aW s1 As1 cs1) rfl Zc (dL _ _ _) (.tmp 9) (.tmp 25) rfl rfl rfl (below_setCells _ (by omega) _ _ _ _ hHX) ?_
        try simp only [Act.put,la,lz,ls]
        refine wpAnyH_ready (rs:=[17]) (by kernel_rfl) (by simp) ?_
        refine ak1 (o:=_) (ga rfl) (by kernel_rfl) (Held.others (by omega) _ _ _ g14) (aW s2 As2 cs2) rfl Zc (dL _ _ _) (.tmp 10) (.tmp 30) rfl rfl rfl (below_setCells _ (by omega) _ _ _ _ (below_setCells _ (by omega) _ _ _ _ hHX)) ?_
        try simp only [Act.put,la,lz,ls]
        refine wpAnyH_ready (rs:=[18]) (by kernel_rfl) (by simp) ?_
        refine ak1 (o:=_) (ga rfl) (by kernel_rfl) (Held.others (by omega) _ _ _ (Held.others (by omega) _ _ _ g15)) (au e) rfl Zf (uq _ _ _) (.tmp 11) (.tmp 34) rfl rfl rfl (below_setCells _ (by omega) _ _ _ _ (below_setCells _ (by omega) _ _ _ _ (below_setCells _ (by omega) _ _ _ _ hHX))) ?_
        try simp only [Act.put,la,lz,ls]
        refine wpAnyH_done (by kernel_rfl) ?_ _
        have hwl:=hI.bx.lt
        exact HJ7.out _ _ _ _ _ _ _ _ _ _ _ _ _ _ _ _ _ _ _ _ _ _ _ _ _ _ _ _ _ _ _ _ _ _ _ _ _ _ _ _ _ _ _ _ _ _ _ _ _ _ _ _ _ _ _ _ _ _ _ _ _ _ _ _ _ _ _ _ (ag6 (aeE g13 g14 g15 (by omega) (by omega) (by omega) rfl rfl rfl (below_setCells _ (by omega) _ _ _ _ (below_setCells _ (by omega) _ _ _ _ (below_setCells _ (by omega) _ _ _ _ hHX)))) (by omega) (by omega) (by omega))
  · have hke:k=l.length:=by omega
    have i9:¬ ((k:Int)<(l.length:Int)):=by omega
    subst hke
    have hdr:(plain l).drop l.length=[]:=by rw [← eF l];exact List.drop_length
    have heq:=hI.eq
    rw [hdr,M.acn] at heq
    have hn1:=hI.bx.cell (j:=1) rfl
    have hal:=hI.al
    have hNl:=hI.bx.lt
    have hpl:∀ (R:List M.Run) (v:Value) (A3:Option Addr) (c3:Nat) (w4:World),(M.runs r (plain l))=R→Below WL.heap.size WL w4→w4.ownsRow (WL.heap.size+1) 62 2 (.slice A3 R.length c3) R.length (R.flatMap acX)→R.length≤1001→∃ A2 c2,Ending.returned (.slice A3 R.length c3)= .returned (.slice A2 (M.runs r (plain l)).length c2)∧Reads w4 (fun b=>w.heap.size≤b) 2 A2 (M.runs r (plain l)).length c2 ((M.runs r (plain l)).flatMap acX)∧Below w.heap.size w w4:=by
     rintro R v A3 c3 w4 rfl hb ho hl
     exact ⟨A3,c3,rfl,Reads.more (Reads.kG ho (fun g hg=>hg) (by omega)) (fun b _ h=>by have h:WL.heap.size+1≤b:=h;have:=hT.bw.size;omega),hT.bw.trans (hb.mono hT.bw.size)⟩
    have Dw:=hide hpl
    clear hpl hdr hp hlt
    by_cases hpz:0<now.points
    · rw [if_pos hpz] at heq
      have HEQ:=hide heq
      have Pg:=decide_eq_true hpz
      clear heq hpz
      go_wp2
      refine Q9.out _ _ ?_
      apply wp_seq_k
      intro K4 hK4
      have HK4:=hide hK4
      clear hK4
      apply wp_seq_k
      intro K5 hK5
      have HK5:=hide hK5
      clear hK5
      go_wp2
      refine HK5.out _ _ ?_
      refine wp_cond_true rfl ?_
      go_wp2_with (first | (refine aN 62 (.tmp 7) rfl ?_;refine aG (hI.bx) Tryz.underlying62 rfl acy rfl (.tmp 7) rfl rfl ?_) | (at_builtin;refine wpList_append_lies _ rfl _ _ _ rfl (WL.heap.size+1) 62 i0 (.agg #[.int .i64 0,.int .i64 0]) 2 16 Tryz.underlying59 hi0 hz0 hz1 hz2 rfl (by omega) _ _ _ rfl (hI.own.alloc _) ⟨wr.heap.size,0,none⟩ 1 1 [.int .i64 now.aC,.int .i64 now.points] rfl rfl (dK _ _ _ _ rfl) (by simp [Value.oneCell']) (by omega) (by simp only [maxLen];omega) (by omega) (by simp;omega) (wr.heap.size+1) (by simp) ?_))
      intro g1 cap w4 hown4 hgrow hat _
      have hge:∀ g,(Value.slice A2 acc.length c2).ownBlock=some g→WL.heap.size+1≤g:=fun g hg=>(bg hI.own hg).1
      have hb4:Below WL.heap.size WL w4:=hI.bw.trans (anF hgrow (fun g hg=>by have:=hge g hg;omega) hI.bw.size)
      have hl4:(acc++[now]).length=acc.length+1:=by simp
      have Fp:w4.ownsRow (WL.heap.size+1) 62 2 (.slice (some ⟨g1,0,none⟩) (acc++[now]).length cap) (acc++[now]).length ((acc++[now]).flatMap acX):=by
       rw [hl4,List.flatMap_append]
       have:[now].flatMap acX=[.int .i64 now.aC,.int .i64 now.points]:=rfl
       rw [this]
       exact hown4
      have HZ:=hide (Dw.out _ undef _ _ _ HEQ.out.symm hb4 Fp (by rw [hl4];omega))
      clear hown4 hgrow hat hge hb4 Fp
      go_wp2
      refine HK4.out _ _ ?_
      go_wp2
      go_ret
      rw [hl4] at HZ
      exact HZ.out
    · rw [if_neg hpz] at heq
      have HEQ:=hide heq
      have Pg:=decide_eq_false hpz
      have HZ:=hide (Dw.out _ undef _ _ _ heq.symm hI.bw hI.own (by omega))
      clear heq hpz
      go_wp2
      refine Q9.out _ _ ?_
      apply wp_seq_k
      intro K4 hK4
      have HK4:=hide hK4
      clear hK4
      apply wp_seq_k
      intro K5 hK5
      have HK5:=hide hK5
      clear hK5
      go_wp2
      refine HK5.out _ _ ?_
      refine wp_cond_false rfl ?_
      go_wp2
      refine HK4.out _ _ ?_
      go_wp2
      go_ret
      exact HZ.out
theorem avp (S:Nat→Prop) (r:M.Rules) (l:List Sh) (A0:Option Addr) (c0:Nat) (w:World) (HP:Hid (wG w (fun b=>S b∧b<w.heap.size) A0 c0 l)) (wZ:Hid (M.aH r=0∧M.je (plain l)=0)) (HN:Hid (am6 S r l A0 c0 w)):aqv S r l A0 c0 w:=by
 dsimp only [aqv,apP]
 intros
 rename_i W hf
 dsimp only [ahu,dQ,Tryz.f25,Option.getD]
 obtain ⟨rfl,rfl,L,A,c,rfl,hT⟩:=hf
 have hbx:=Held.new W [.int .i64 0,.int .i64 0] 62
 have hI0:=RnI.start (r:=r) (l:=l) (WL:=W)
 apply wp_seq_k
 intro K hK
 have HK:=hide hK
 clear hK
 go_wp2
 refine HK.out _ _ ?_
 apply wp_seq_k
 intro K3 hK3
 have HK3:=hide hK3
 clear hK3
 go_wp2_with (first | (refine aO 62 (.tmp 7) (.tmp 15) rfl ?_;refine aF hbx [.int .i64 0,.int .i64 0] rfl acy (by simp [Value.oneCell']) rfl (.tmp 7) (.tmp 15) rfl rfl rfl ?_))
 refine HK3.out _ _ ?_
 apply HN.out
 exact ⟨rfl,rfl,rfl,W,L,A,c,rfl,hT,rfl,hI0⟩
theorem ah9 (S:Nat→Prop) (r:M.Rules) (l:List Sh) (A0:Option Addr) (c0:Nat) (w:World) (hp:wG w S A0 c0 l) (hr:M.aH r=0) (hl:M.je (plain l)=0):
 Calls Tryz.prog 25 #[jM r,.slice A0 l.length c0] w fun e w'=>∃ A2 c2,e= .returned (.slice A2 (M.runs r (plain l)).length c2)∧Reads w' (fun b=>w.heap.size≤b) 2 A2 (M.runs r (plain l)).length c2 ((M.runs r (plain l)).flatMap acX)∧Below w.heap.size w w':=by
 have hp:=hp.more (S':=fun b=>S b∧b<w.heap.size) (fun b hb h=>⟨h,hb⟩)
 have HP:=hide hp
 have arf:=hide (avp S r l A0 c0 w HP (hide ⟨hr,hl⟩) (hide (avw S r l A0 c0 w HP (hide ⟨hr,hl⟩))))
 have hst:=fun W h=>agr (fun b=>S b∧b<w.heap.size) r l A0 c0 W h hr hl
 have HST:=hide hst
 clear hst hr hl
 go_enter Tryz.func25,Tryz.ntmps25
 apply wp_seq_k
 intro K hK
 have HK:=hide hK
 clear hK
 have hB0:=(bU.nil w).new (by simp) ([.string r.game,.int .i64 r.target,.int .i64 r.aY]) 25
 go_wp2
 refine HK.out _ _ ?_
 refine ZM (p:=fun W=>Code.wp _ _ _ _ W) (fun w0 hw0=>?_)
 have hB:bU w w0 [([.string r.game,.int .i64 r.target,.int .i64 r.aY],25)]:=by rw [hw0];exact hB0
 clear hw0 hB0
 apply wp_seq_k
 intro K hK
 have HK:=hide hK
 clear hK
 go_wp2_with (first | (refine aN 25 (.tmp 2) rfl ?_;refine aG (hB.bf rfl) Tryz.underlying25 rfl Zm rfl (.tmp 2) rfl rfl ?_) | (go_at_call 67;refine (HST.out _ (hp.below hB.bw)).mono ?_;rintro e w1 ⟨L,A1,c1,rfl,hl1,hr1,hb1⟩;have hB1:=hB.call (by simp) hb1))
 refine HK.out _ _ ?_
 have HA:=arf.out
 apply HA
 have hsz:=hB.size (by simp)
 simp only [List.length_cons,List.length_nil] at hsz
 exact ⟨rfl,rfl,L,A1,c1,rfl,hl1,hB1.bf rfl,hr1.more (fun b _ h=>by rcases h with h | h;exact .inl h.1;exact .inr (by omega)),hB1.bw⟩
noncomputable def acP (n:Nat):Code:=dQ n ((Tryz.f4).body.getD .skip)
@[reducible] def RNQ (W0:World) (r:M.Rules) (l:List Sh) (Al:Option Addr) (cl:Nat) (F:Value→Value→Value→Value→Value→Value→Value→Value→World→Prop) (n:Nat):Prop:=∀ (z0 z1 z2 z3 z4 z5 z6 z7 z8 z9 z10 z11 z12 z13 kD kK kF z17 kL jQ z20 z21 z22 z23 z24 z25 z26 z27 z28 z29 z30 z31 z32 z33 z34 z35 z36 z37 z38 z39 z40 z41 z42 z43 z44 z45 z46 z47 z48 z49 z50 z51 z52 z53 z54 z55 z56 z57 z58 z59 z60 z61 z62 z63 z64:Value) (W:World),F z1 z2 z5 z6 z7 z8 z9 z10 W→(acP n).wp Tryz.prog (bodyPost Tryz.prog Tryz.f4 (fun e w'=>e= .returned (.bool true)∧Below W0.heap.size W0 w')) {tmps:= #[z0,z1,z2,z3,z4,z5,z6,z7,z8,z9,z10,z11,z12,z13,kD,kK,kF,z17,kL,jQ,z20,z21,z22,z23,z24,z25,z26,z27,z28,z29,z30,z31,z32,z33,z34,z35,z36,z37,z38,z39,z40,z41,z42,z43,z44,z45,z46,z47,z48,z49,z50,z51,z52,z53,z54,z55,z56,z57,z58,z59,z60,z61,z62,z63,z64],defers:=[] } W
@[reducible] def atN (W0:World) (r:M.Rules) (l:List Sh) (Al:Option Addr) (cl:Nat):Prop:=RNQ W0 r l Al cl (fun z1 z2 _ _ _ _ _ _ W=>amI W0 r l Al cl z1 z2 W) 1
@[reducible] def arW (W0:World) (r:M.Rules) (l:List Sh) (Al:Option Addr) (cl:Nat):Prop:=RNQ W0 r l Al cl (fun z1 z2 z5 z6 _ _ _ _ W=>ahC W0 r l Al cl z1 z2 z5 z6 W) 2
@[reducible] def ar5 (W0:World) (r:M.Rules) (l:List Sh) (Al:Option Addr) (cl:Nat):Prop:=RNQ W0 r l Al cl (fun z1 z2 z5 z6 _ _ _ _ W=>ahC W0 r l Al cl z1 z2 z5 z6 W) 3
@[reducible] def ase (W0:World) (r:M.Rules) (l:List Sh) (Al:Option Addr) (cl:Nat):Prop:=RNQ W0 r l Al cl (fun z1 z2 z5 z6 z7 z8 _ _ W=>ahC W0 r l Al cl z1 z2 z5 z6 W∧agJ 2 ((lM r l).flatMap acX) (lM r l).length z7 W∧z8= .int .i64 (wP r l)) 4
@[reducible] def aso (W0:World) (r:M.Rules) (l:List Sh) (Al:Option Addr) (cl:Nat):Prop:=RNQ W0 r l Al cl (fun z1 z2 z5 z6 z7 z8 z9 _ W=>ahC W0 r l Al cl z1 z2 z5 z6 W∧(agJ 2 ((lM r l).flatMap acX) (lM r l).length z7 W∧z8= .int .i64 (wP r l))∧z9= .int .i64 (wP r l)) 5
@[reducible] def asA (W0:World) (r:M.Rules) (l:List Sh) (Al:Option Addr) (cl:Nat):Prop:=RNQ W0 r l Al cl (fun z1 z2 z5 z6 z7 z8 z9 z10 W=>ahC W0 r l Al cl z1 z2 z5 z6 W∧(agJ 2 ((lM r l).flatMap acX) (lM r l).length z7 W∧z8= .int .i64 (wP r l))∧z9= .int .i64 (wP r l)∧z10= .slice none 0 0) 6
@[reducible] def asI (W0:World) (r:M.Rules) (l:List Sh) (Al:Option Addr) (cl:Nat):Prop:=RNQ W0 r l Al cl (fun _ _ _ _ z7 z8 z9 z10 W=>(agJ 2 ((lM r l).flatMap acX) (lM r l).length z7 W∧z8= .int .i64 (wP r l))∧z9= .int .i64 (wP r l)∧agJ 2 ((lM r l).flatMap acX) (lM r l).length z10 W∧Below W0.heap.size W0 W) 7
@[reducible] def amQ (W0:World) (r:M.Rules) (l:List Sh) (Al:Option Addr) (cl:Nat):Prop:=RNQ W0 r l Al cl (fun _ _ _ _ z7 _ _ z10 W=>(agJ 2 ((lM r l).flatMap acX) (lM r l).length z7 W)∧agJ 2 ((lM r l).flatMap acX) (lM r l).length z10 W∧Below W0.heap.size W0 W) 8
@[reducible] def amY (W0:World) (r:M.Rules) (l:List Sh) (Al:Option Addr) (cl:Nat):Prop:=RNQ W0 r l Al cl (fun _ _ _ _ _ _ _ _ W=>Below W0.heap.size W0 W) 9
theorem avZ (W0:World) (r:M.Rules) (l:List Sh) (Al:Option Addr) (cl:Nat) (HG:Hid (Glob W0)) (HN:Hid (arW W0 r l Al cl)):atN W0 r l Al cl:=by
 dsimp only [atN,RNQ]
 intros
 rename_i W hf
 dsimp only [acP,dQ,Tryz.f4,Option.getD]
 have hF:=hf
 obtain ⟨rfl,rfl,h2,_,_,_,_⟩:=hf
 have hr2:∀ W',(fun w':World=>Below W.heap.size W w') W'→W'.rangeAt W0.heap.size 0 ([.string r.game,.int .i64 r.target,.int .i64 r.aY]):=fun W' h=>(h2.below h).range
 apply wp_seq_k
 intro K hK
 have HK:=hide hK
 clear hK
 refine wp_region_held_drew (S:=(fun w':World=>Below W.heap.size W w')) (by kernel_rfl) ?eP (fun hHeld=>?_)
 case eP=>exact (Below.refl _ _).drew
 refine wpAnyH_take (i:=0) (oi:=_) (v:=_) (ga rfl) (by kernel_rfl) (by kernel_rfl) (by kernel_rfl) (fun _ _ _ h=>h) (yieldsIf_load_mid (by rfl) _ _ (by rfl) _ _ (by rfl) _ _ hr2 Tryz.underlying23 rfl (by kernel_rfl)) (by assumption) ?_
 try simp only [Act.put,la,lz,ls]
 refine tk 1 ?_
 refine wpAnyH_ready (rs:=[2,3]) (by kernel_rfl) (by simp) ?_
 refine AllReadyH.cons (o:=_) (ga rfl) (fun K hK=>?_) (AllReadyH.cons (o:=_) (ga rfl) (fun K hK=>?_) AllReadyH.nil)
 · go_simp
   (go_at_call 15;refine (akN (fun _=>True) l Al cl _ (hF.rl.below hHeld) hF.ll hF.pl).mono ?_;rintro e w6 ⟨l',A6,c6,hpl,rfl,kP,hb6⟩;have iR:W.heap.size≤w6.heap.size:=Nat.le_trans hHeld.size hb6.size)
   refine hK.out _ _ ?aqm (fun hHeld=>?_)
   case aqm=>(exact hHeld.trans (hb6.mono hHeld.size))
   clear hK K
   try simp only [Act.put,la,lz,ls]
   refine tr 3 fun K hK=>?_
   go_simp
   refine hK.out _ _ ?an5 (fun hHeld=>?_)
   case an5=>(exact Below.alloc hHeld hHeld.size _)
   clear hK K
   try simp only [Act.put,la,lz,ls]
   refine tr 4 fun K hK=>?_
   refine bF (cs:=[.string ⟨#[]⟩,.int .i64 0,.int .i64 0]) (by first | exact (Held.newAt _ [.string ⟨#[]⟩,.int .i64 0,.int .i64 0] 25 (by first | rfl | simp)) | exact (Held.newAt _ [.string ⟨#[]⟩,.int .i64 0,.int .i64 0] 25 (by first | rfl | simp)).drew.below hb6) [.string r.game,.int .i64 r.target,.int .i64 r.aY] rfl aad (xI _ _ _) (.tmp 5) (.tmp 12) rfl rfl rfl ?_
   refine hK.out _ _ ?aom (fun hHeld=>?_)
   case aom=>(exact below_setCells _ (by first | exact Nat.le_refl _ | exact iR | exact Nat.le_succ _ | exact Nat.le_succ_of_le iR) _ _ _ _ hHeld)
   clear hK K
   try simp only [Act.put,la,lz,ls]
   refine tk 5 ?_
   refine wpAnyH_done (by kernel_rfl) ?_ _
   refine HK.out _ _ ?_
   apply HN.out
   refine ⟨hF.below hHeld,_,A6,c6,l',rfl,?_,rfl,hpl,?_⟩
   · exact Held.whole (cs:=[.string ⟨#[]⟩,.int .i64 0,.int .i64 0]) (by first | exact (Held.newAt _ [.string ⟨#[]⟩,.int .i64 0,.int .i64 0] 25 (by first | rfl | simp)) | exact (Held.newAt _ [.string ⟨#[]⟩,.int .i64 0,.int .i64 0] 25 (by first | rfl | simp)).drew.below hb6) _ rfl
   · exact wG.more (wG.arl kP (by first | exact Below.refl _ _ | exact (Below.refl _ _).alloc (Nat.le_refl _) _) (fun b hl h=>by have hq:=hb6.size;(try simp at hq);(try simp at h);intro e;omega)) (fun _ _ _=>trivial)
 · go_simp
   refine hK.out _ _ ?aod (fun hHeld=>?_)
   case aod=>(exact Below.alloc hHeld hHeld.size _)
   clear hK K
   try simp only [Act.put,la,lz,ls]
   refine tr 2 fun K hK=>?_
   go_simp
   (go_at_call 15;refine (akN (fun _=>True) l Al cl _ (hF.rl.below hHeld) hF.ll hF.pl).mono ?_;rintro e w6 ⟨l',A6,c6,hpl,rfl,kP,hb6⟩;have iR:W.heap.size≤w6.heap.size:=Nat.le_trans hHeld.size hb6.size)
   refine hK.out _ _ ?anX (fun hHeld=>?_)
   case anX=>(exact hHeld.trans (hb6.mono hHeld.size))
   clear hK K
   try simp only [Act.put,la,lz,ls]
   refine tr 4 fun K hK=>?_
   refine bF (cs:=[.string ⟨#[]⟩,.int .i64 0,.int .i64 0]) (by first | exact (Held.newAt _ [.string ⟨#[]⟩,.int .i64 0,.int .i64 0] 25 (by first | rfl | simp)) | exact (Held.newAt _ [.string ⟨#[]⟩,.int .i64 0,.int .i64 0] 25 (by first | rfl | simp)).drew.below hb6) [.string r.game,.int .i64 r.target,.int .i64 r.aY] rfl aad (xI _ _ _) (.tmp 5) (.tmp 12) rfl rfl rfl ?_
   refine hK.out _ _ ?aou (fun hHeld=>?_)
   case aou=>(exact below_setCells _ (by first | exact Nat.le_refl _ | exact iR | exact Nat.le_succ _ | exact Nat.le_succ_of_le iR) _ _ _ _ hHeld)
   clear hK K
   try simp only [Act.put,la,lz,ls]
   refine tk 5 ?_
   refine wpAnyH_done (by kernel_rfl) ?_ _
   refine HK.out _ _ ?_
   apply HN.out
   refine ⟨hF.below hHeld,_,A6,c6,l',rfl,?_,rfl,hpl,?_⟩
   · exact Held.whole (cs:=[.string ⟨#[]⟩,.int .i64 0,.int .i64 0]) (by first | exact (Held.newAt _ [.string ⟨#[]⟩,.int .i64 0,.int .i64 0] 25 (by first | rfl | simp)) | exact (Held.newAt _ [.string ⟨#[]⟩,.int .i64 0,.int .i64 0] 25 (by first | rfl | simp)).drew.below hb6) _ rfl
   · exact wG.more (wG.arl kP (by first | exact Below.refl _ _ | exact (Below.refl _ _).alloc (Nat.le_refl _) _) (fun b hl h=>by have hq:=hb6.size;(try simp at hq);(try simp at h);intro e;omega)) (fun _ _ _=>trivial)
theorem av7 (W0:World) (r:M.Rules) (l:List Sh) (Al:Option Addr) (cl:Nat) (HG:Hid (Glob W0)) (HN:Hid (ar5 W0 r l Al cl)):arW W0 r l Al cl:=by
 dsimp only [arW,RNQ]
 intros
 rename_i W hf
 dsimp only [acP,dQ,Tryz.f4,Option.getD]
 have hE:=hf
 obtain ⟨hF,B5,A6,c6,l',rfl,h5,rfl,hpl,h6⟩:=id hE
 have hF':=hF
 obtain ⟨rfl,rfl,h2,hl,awZ,awS,hbw⟩:=hF'
 have k0:=h2.cell (j:=0) rfl
 have HG9:=hide (HG.out.below hbw)
 apply wp_seq_k
 intro K hK
 have HK:=hide hK
 clear hK
 apply wp_seq_k
 intro K2 hK2
 have PD:=hide hK2
 clear hK2
 by_cases hg:60<r.game.size
 · have hg':(60:Int)<(r.game.size:Int):=by omega
   go_wp2_with (first | (refine aN 25 (.tmp 5) rfl ?_;refine aG (h5') Tryz.underlying25 rfl aad rfl (.tmp 5) rfl rfl ?_) | (refine aN 25 (.tmp 5) rfl ?_;refine su (h5') Tryz.underlying25 rfl aad rfl (.tmp 5) rfl rfl ?_) | (refine vg 25 (.tmp 5) rfl ?_;refine sD (h5') Tryz.underlying25 rfl aad (.tmp 5) rfl rfl ?_) | (go_at_call 16;refine (aln _ l' A6 c6 30 _ h6).mono ?_;rw [hpl,hd2];rintro e w2 ⟨rfl,hb2⟩;have HG9:=hide (HG9.out.below hb2);have h5':=h5.below hb2;have h6':=h6.below hb2;dsimp only) | (go_at_call 20;refine (ajh _ r l' A6 c6 _ h6').mono ?_;rw [hpl,hEq];rintro e w3 ⟨rfl,hb3⟩;have HG9:=hide (HG9.out.below hb3);dsimp only))
   refine PD.out _ _ ?_
   go_wp2_with (first | (go_at_call 17;refine (QJ _ HG9.out).mono ?_;rintro e w9 ⟨rfl,U6⟩;dsimp only))
   go_ret
   exact ⟨rfl,VY hbw U6⟩
 · have hg':¬ (60:Int)<(r.game.size:Int):=by omega
   obtain ⟨sb,hd2⟩:∃ q,ZV (plain l) 30=q:=⟨_,rfl⟩
   cases sb with
   | true=>
     go_wp2_with (first | (refine aN 25 (.tmp 5) rfl ?_;refine aG (h5') Tryz.underlying25 rfl aad rfl (.tmp 5) rfl rfl ?_) | (refine aN 25 (.tmp 5) rfl ?_;refine su (h5') Tryz.underlying25 rfl aad rfl (.tmp 5) rfl rfl ?_) | (refine vg 25 (.tmp 5) rfl ?_;refine sD (h5') Tryz.underlying25 rfl aad (.tmp 5) rfl rfl ?_) | (go_at_call 16;refine (aln _ l' A6 c6 30 _ h6).mono ?_;rw [hpl,hd2];rintro e w2 ⟨rfl,hb2⟩;have HG9:=hide (HG9.out.below hb2);have h5':=h5.below hb2;have h6':=h6.below hb2;dsimp only) | (go_at_call 20;refine (ajh _ r l' A6 c6 _ h6').mono ?_;rw [hpl,hEq];rintro e w3 ⟨rfl,hb3⟩;have HG9:=hide (HG9.out.below hb3);dsimp only))
     refine PD.out _ _ ?_
     go_wp2
     refine HK.out _ _ ?_
     apply HN.out
     exact hE.below hb2
   | false=>
     go_wp2_with (first | (refine aN 25 (.tmp 5) rfl ?_;refine aG (h5') Tryz.underlying25 rfl aad rfl (.tmp 5) rfl rfl ?_) | (refine aN 25 (.tmp 5) rfl ?_;refine su (h5') Tryz.underlying25 rfl aad rfl (.tmp 5) rfl rfl ?_) | (refine vg 25 (.tmp 5) rfl ?_;refine sD (h5') Tryz.underlying25 rfl aad (.tmp 5) rfl rfl ?_) | (go_at_call 16;refine (aln _ l' A6 c6 30 _ h6).mono ?_;rw [hpl,hd2];rintro e w2 ⟨rfl,hb2⟩;have HG9:=hide (HG9.out.below hb2);have h5':=h5.below hb2;have h6':=h6.below hb2;dsimp only) | (go_at_call 20;refine (ajh _ r l' A6 c6 _ h6').mono ?_;rw [hpl,hEq];rintro e w3 ⟨rfl,hb3⟩;have HG9:=hide (HG9.out.below hb3);dsimp only))
     refine PD.out _ _ ?_
     go_wp2_with (first | (go_at_call 17;refine (QJ _ HG9.out).mono ?_;rintro e w9 ⟨rfl,U6⟩;dsimp only))
     go_ret
     exact ⟨rfl,VY (VY hbw hb2) U6⟩
theorem awg (W0:World) (r:M.Rules) (l:List Sh) (Al:Option Addr) (cl:Nat) (HG:Hid (Glob W0)) (HN:Hid (ase W0 r l Al cl)):ar5 W0 r l Al cl:=by
 dsimp only [ar5,RNQ]
 intros
 rename_i W hf
 dsimp only [acP,dQ,Tryz.f4,Option.getD]
 have hE:=hf
 obtain ⟨hA,B5,A6,c6,l',rfl,h5,rfl,hpl,h6⟩:=id hE
 obtain ⟨rfl,rfl,h2,hl,_,_,hbw⟩:=hA
 have hcl:=Ny _ r l Al cl W hl
 have JF:=hide hcl
 clear hcl
 apply wp_seq_k
 intro K hK
 have HK:=hide hK
 clear hK
 go_wp2_with (first | (refine aN 23 (.tmp 2) rfl ?_;refine aG (h2) Tryz.underlying23 rfl kV rfl (.tmp 2) rfl rfl ?_) | (go_at_call 24;refine JF.out.mono ?_;rintro e w1 ⟨A1,c1,rfl,hr1,hb1⟩;dsimp only))
 refine HK.out _ _ ?_
 apply HN.out
 exact ⟨hE.below hb1,⟨A1,c1,rfl,Reads.more hr1 (fun _ _ _=>trivial)⟩,rfl⟩
theorem awn (W0:World) (r:M.Rules) (l:List Sh) (Al:Option Addr) (cl:Nat) (HG:Hid (Glob W0)) (HN:Hid (aso W0 r l Al cl)):ase W0 r l Al cl:=by
 dsimp only [ase,RNQ]
 intros
 rename_i W hf
 dsimp only [acP,dQ,Tryz.f4,Option.getD]
 obtain ⟨hE,h7,rfl⟩:=hf
 obtain ⟨hA,B5,A6,c6,l',rfl,h5,rfl,hpl,h6⟩:=id hE
 obtain ⟨rfl,rfl,h2,hl,_,_,hbw⟩:=hA
 apply wp_seq_k
 intro K hK
 have HK:=hide hK
 clear hK
 go_wp2_with (first | (refine aN 25 (.tmp 5) rfl ?_;refine aG (h5) Tryz.underlying25 rfl aad rfl (.tmp 5) rfl rfl ?_) | (refine aN 25 (.tmp 5) rfl ?_;refine su (h5) Tryz.underlying25 rfl aad rfl (.tmp 5) rfl rfl ?_) | (refine vg 25 (.tmp 5) rfl ?_;refine sD (h5) Tryz.underlying25 rfl aad (.tmp 5) rfl rfl ?_) | (go_at_call 20;refine (ajh _ r l' A6 c6 _ h6).mono ?_;rw [hpl];rintro e w3 ⟨rfl,hb3⟩;dsimp only))
 refine HK.out _ _ ?_
 apply HN.out
 exact ⟨hE.below hb3,⟨h7.below hb3,rfl⟩,rfl⟩
theorem awv (W0:World) (r:M.Rules) (l:List Sh) (Al:Option Addr) (cl:Nat) (HG:Hid (Glob W0)) (HN:Hid (asA W0 r l Al cl)):aso W0 r l Al cl:=by
 dsimp only [aso,RNQ]
 intros
 rename_i W hf
 dsimp only [acP,dQ,Tryz.f4,Option.getD]
 obtain ⟨hE,h7,rfl⟩:=hf
 apply wp_seq_k
 intro K hK
 have HK:=hide hK
 clear hK
 go_wp2
 refine HK.out _ _ ?_
 apply HN.out
 exact ⟨hE,h7,rfl,rfl⟩
theorem awE (W0:World) (r:M.Rules) (l:List Sh) (Al:Option Addr) (cl:Nat) (HG:Hid (Glob W0)) (HN:Hid (asI W0 r l Al cl)):asA W0 r l Al cl:=by
 dsimp only [asA,RNQ]
 intros
 rename_i W hf
 dsimp only [acP,dQ,Tryz.f4,Option.getD]
 obtain ⟨hE,h7,rfl,rfl⟩:=hf
 obtain ⟨hA,B5,A6,c6,l',rfl,h5,rfl,hpl,h6⟩:=id hE
 obtain ⟨rfl,rfl,h2,hl,_,_,hbw⟩:=hA
 obtain ⟨h7,rfl⟩:=h7
 apply wp_seq_k
 intro K hK
 have HK:=hide hK
 clear hK
 apply wp_seq_k
 intro K2 hK2
 have PD:=hide hK2
 clear hK2
 by_cases h0:wP r l=0
 · have q0:(wP r l == 0)=true:=by simpa using h0
   have hck:=anz (show aU [M.aH r,M.je (plain l)]=0 from h0)
   have hcl:=ah9 _ r l' A6 c6 W h6 hck.1 (by rw [hpl];exact hck.2)
   rw [hpl] at hcl
   have hs:M.runs r (plain l)=lM r l:=(if_pos h0).symm
   rw [hs] at hcl
   have JF:=hide hcl
   clear hcl hs hck h0
   go_wp2
   refine PD.out _ _ ?_
   go_wp2_with (first | (refine aN 25 (.tmp 5) rfl ?_;refine aG (h5) Tryz.underlying25 rfl aad rfl (.tmp 5) rfl rfl ?_) | (refine aN 25 (.tmp 5) rfl ?_;refine su (h5) Tryz.underlying25 rfl aad rfl (.tmp 5) rfl rfl ?_) | (refine vg 25 (.tmp 5) rfl ?_;refine sD (h5) Tryz.underlying25 rfl aad (.tmp 5) rfl rfl ?_) | (go_at_call 25;refine JF.out.mono ?_;rintro e w1 ⟨A1,c1,rfl,hr1,hb1⟩;dsimp only))
   refine HK.out _ _ ?_
   apply HN.out
   exact ⟨⟨h7.below hb1,rfl⟩,rfl,⟨A1,c1,rfl,Reads.more hr1 (fun _ _ _=>trivial)⟩,VY hbw hb1⟩
 · have q0:(wP r l == 0)=false:=by simpa using h0
   have hs:lM r l=[]:=if_neg h0
   have HS:=hide hs
   clear hs h0
   go_wp2
   refine PD.out _ _ ?_
   go_wp2
   refine HK.out _ _ ?_
   apply HN.out
   exact ⟨⟨h7,rfl⟩,rfl,by rw [HS.out];exact ⟨none,0,rfl,Reads.none_ _ _ _⟩,hbw⟩
theorem awL (W0:World) (r:M.Rules) (l:List Sh) (Al:Option Addr) (cl:Nat) (HG:Hid (Glob W0)) (HN:Hid (amQ W0 r l Al cl)):asI W0 r l Al cl:=by
 dsimp only [asI,RNQ]
 intros
 rename_i W hf
 dsimp only [acP,dQ,Tryz.f4,Option.getD]
 obtain ⟨⟨h7,rfl⟩,rfl,h10,hbw⟩:=hf
 have hq7:=h7
 have hq10:=h10
 obtain ⟨A7,c7,rfl,r7⟩:=h7
 obtain ⟨Yv,c10,rfl,r10⟩:=h10
 obtain ⟨E,hE⟩:∃ q,wP r l=q:=⟨_,rfl⟩
 rw [hE]
 have q1:(E != E)=false:=by simp
 have q2:(((lM r l).length:Int) != ((lM r l).length:Int))=false:=by simp
 clear hE
 apply wp_seq_k
 intro K hK
 have HK:=hide hK
 clear hK
 apply wp_seq_k
 intro K2 hK2
 have PD:=hide hK2
 clear hK2
 go_wp2
 refine PD.out _ _ ?_
 go_wp2
 refine HK.out _ _ ?_
 apply HN.out
 exact ⟨hq7,hq10,hbw⟩
theorem avb (W0:World) (r:M.Rules) (l:List Sh) (Al:Option Addr) (cl:Nat) (HG:Hid (Glob W0)) (HN:Hid (amY W0 r l Al cl)):amQ W0 r l Al cl:=by
 dsimp only [amQ,RNQ]
 intros
 rename_i W hf
 dsimp only [acP,dQ,Tryz.f4,Option.getD]
 obtain ⟨h7,h10,hbw⟩:=hf
 obtain ⟨A7,c7,rfl,r7⟩:=h7
 obtain ⟨Yv,c10,rfl,r10⟩:=h10
 obtain ⟨ls,hls⟩:∃ q,(lM r l)=q:=⟨_,rfl⟩
 rw [hls] at r7 r10
 rw [hls]
 have hbl:=(Reads.bd r7).2.2
 clear hls
 apply wp_seq_k
 intro K1 hK1
 have Q9:=hide hK1
 clear hK1
 apply wp_seq_k
 intro K2 hK2
 have PD:=hide hK2
 clear hK2
 go_wp2
 refine PD.out _ _ ?_
 go_wp2
 go_loopw [51] (fun i wr=>∃ k:Nat,k≤ls.length∧i= .int .i64 k∧∃ n,wr=W.drewN n) (fun i _=>ls.length - (intOf i).toNat)
 case atStart=>exact ⟨0,Nat.zero_le _,rfl,0,rfl⟩
 case round=>
  obtain ⟨k,hk,rfl,nd,rfl⟩:=hrel
  by_cases hlt:k<ls.length
  · obtain ⟨b,o,rfl,_,P9,hcs⟩:=Reads.at_ r7 (by omega)
    obtain ⟨b',o',rfl,_,XM,hcs'⟩:=Reads.at_ r10 (by omega)
    have h00:=anT aik hcs k hlt
    have h01:=anT aik hcs' k hlt
    obtain ⟨a,ha⟩:∃ a,ls[k]=a:=⟨_,rfl⟩
    rw [ha] at h00 h01
    clear ha hcs hcs'
    obtain ⟨p1,p2⟩:=a
    have c0:W.cell? ⟨b,o+k*2,none⟩=some (.int .i64 p1):=h00 0 _ rfl
    have d0:W.cell? ⟨b',o'+k*2,none⟩=some (.int .i64 p1):=h01 0 _ rfl
    have c1:W.cell? ⟨b,o+k*2+1,none⟩=some (.int .i64 p2):=h00 1 _ rfl
    have d1:W.cell? ⟨b',o'+k*2+1,none⟩=some (.int .i64 p2):=h01 1 _ rfl
    have q0:(p1 == p1)=true:=beq_self_eq_true _
    have qn0:(p1 != p1)=false:=by simp
    have q1:(p2 == p2)=true:=beq_self_eq_true _
    have qn1:(p2 != p2)=false:=by simp
    have i1:(0:Int)≤(k:Int):=by omega
    have i2:(k:Int)<(ls.length:Int):=by omega
    clear h00 h01 r7 r10
    go_wp2
    go_quiet (fail)
    go_wp2
    go_roundw
    case rel=>exact ⟨k+1,by omega,by go_num,_,rfl⟩
    case measure=>simp [intOf];omega
  · have i9:¬ ((k:Int)<(ls.length:Int)):=by omega
    clear hlt
    go_wp2
    refine Q9.out _ _ ?_
    apply HN.out
    exact below_drewN hbw nd
theorem avi (W0:World) (r:M.Rules) (l:List Sh) (Al:Option Addr) (cl:Nat) (HG:Hid (Glob W0)):amY W0 r l Al cl:=by
 dsimp only [amY,RNQ]
 intros
 rename_i W hf
 dsimp only [acP,dQ,Tryz.f4,Option.getD]
 have hbw:=hf
 have HG9:=hide (HG.out.below hbw)
 apply wp_seq_k
 intro K hK
 have HK:=hide hK
 clear hK
 go_wp2_with (first | (go_at_call 17;refine (QJ _ HG9.out).mono ?_;rintro e w9 ⟨rfl,U6⟩;dsimp only))
 refine HK.out _ _ ?_
 go_wp2
 go_ret
 exact ⟨rfl,VY hbw U6⟩
theorem aph (W0:World) (hg:Glob W0) (r:M.Rules) (l:List Sh) (Al:Option Addr) (cl:Nat) (hl:wG W0 (fun _=>True) Al cl l) (hpl:∀ e∈l,e.x.aA.length*16≤140737488355328) (hll:l.length*80≤140737488355328):
 Calls Tryz.prog 4 #[jM r,.slice Al l.length cl] W0 fun e w'=>e= .returned (.bool true)∧Below W0.heap.size W0 w':=by
 have HG:=hide hg
 have hall:=avZ W0 r l Al cl HG (hide (av7 W0 r l Al cl HG (hide (awg W0 r l Al cl HG (hide (awn W0 r l Al cl HG (hide (awv W0 r l Al cl HG (hide (awE W0 r l Al cl HG (hide (awL W0 r l Al cl HG (hide (avb W0 r l Al cl HG (hide (avi W0 r l Al cl HG))))))))))))))))
 have arf:=hide hall
 clear hall
 go_enter Tryz.func4,Tryz.ntmps4
 apply wp_seq_k
 intro K hK
 have HK:=hide hK
 clear hK
 have hB:=(bU.nil W0).new (by simp) ([.string r.game,.int .i64 r.target,.int .i64 r.aY]) 23
 go_wp2
 refine HK.out _ _ ?_
 have HA:=arf.out
 apply HA
 exact ⟨rfl,rfl,hB.bf rfl,hl.below hB.bw,hpl,hll,hB.bw⟩
end Go.Proofs.YtelpepbpdojikaaGreatDoor
