/- Parts of the proofs about chapter 5 (pool), joined by program. -/
import Derived.Test.YtelpepbpdojikaaGreatDoorKg31
import Derived.Test.YtelpepbpdojikaaGreatDoorKp1
import Derived.Test.YtelpepbpdojikaaGreatDoorKp7
import Derived.Test.YtelpepbpdojikaaGreatDoorKp8
import Derived.Test.YtelpepbpdojikaaGreatDoorKq10
import Derived.Test.YtelpepbpdojikaaGreatDoorKq7
set_option maxHeartbeats 8000000
set_option maxRecDepth 100000
set_option linter.unusedVariables false
set_option linter.unusedSimpArgs false
namespace Go.Proofs.YtelpepbpdojikaaGreatDoor
open Go.RowKit
structure alr (W0:World) (r:M.Rules) (l:List Sh) (Al:Option Addr) (cl:Nat) (v1 v2:Value) (W:World):Prop where
 e1:v1= .slice Al l.length cl
 e2:v2=ptr W0.heap.size
 h2:Held W W0.heap.size [.string r.game,.int .i64 r.target,.int .i64 r.aY] 23
 rl:wG W (fun _=>True) Al cl l
 pl:∀ e∈l,e.x.aA.length*16≤140737488355328
 ll:l.length*80≤140737488355328
 bw:Below W0.heap.size W0 W
theorem alr.below {W0 W W':World} {r:M.Rules} {l:List Sh} {Al:Option Addr} {cl:Nat} {v1 v2:Value} (h:alr W0 r l Al cl v1 v2 W) (hb:Below W.heap.size W W'):alr W0 r l Al cl v1 v2 W':=
 ⟨h.e1,h.e2,h.h2.below hb,h.rl.below hb,h.pl,h.ll,VY h.bw hb⟩
def agi (W0:World) (r:M.Rules) (l:List Sh) (Al:Option Addr) (cl:Nat) (v1 v2 v5 v6:Value) (W:World):Prop:=
 alr W0 r l Al cl v1 v2 W∧∃ B5 A6 c6 l',v5=ptr B5∧Held W B5 [.string r.game,.int .i64 r.target,.int .i64 r.aY] 25∧v6= .slice A6 l'.length c6∧plain l'=plain l∧wG W (fun _=>True) A6 c6 l'
theorem agi.below {W0 W W':World} {r:M.Rules} {l:List Sh} {Al:Option Addr} {cl:Nat} {v1 v2 v5 v6:Value} (h:agi W0 r l Al cl v1 v2 v5 v6 W) (hb:Below W.heap.size W W'):agi W0 r l Al cl v1 v2 v5 v6 W':=by
 obtain ⟨h1,B5,A6,c6,l',e5,h5,e6,hp,h6⟩:=h
 exact ⟨h1.below hb,B5,A6,c6,l',e5,h5.below hb,e6,hp,h6.below hb⟩
def afa (s:M.State) (t:TypeId) (v:Value) (W:World):Prop:=∃ B A c,v=ptr B∧Held W B (aW s A c) t∧bD W (fun _=>True) A c s.ay
theorem afa.below {s:M.State} {t:TypeId} {v:Value} {W W':World} (h:afa s t v W) (hb:Below W.heap.size W W'):afa s t v W':=by
 obtain ⟨B,A,c,h1,h2,h3⟩:=h
 exact ⟨B,A,c,h1,h2.below hb,h3.below hb⟩
theorem afa.new {s:M.State} {t:TypeId} {A:Option Addr} {c:Nat} {S:Nat→Prop} {w1:World} (hr:bD w1 S A c s.ay) (hbx:Held (w1.alloc (.cells aj.toArray t)) w1.heap.size aj t):
 afa s t (ptr w1.heap.size) ((w1.alloc (.cells aj.toArray t)).setCells w1.heap.size 0 (aW s A c))∧Below w1.heap.size w1 ((w1.alloc (.cells aj.toArray t)).setCells w1.heap.size 0 (aW s A c)):=by
 have hb:Below w1.heap.size w1 ((w1.alloc (.cells aj.toArray t)).setCells w1.heap.size 0 (aW s A c)):=below_setCells _ (Nat.le_refl _) _ _ _ _ ((Below.refl _ _).alloc (Nat.le_refl _) _)
 exact ⟨⟨w1.heap.size,A,c,rfl,hbx.whole _ rfl,bD.more (hr.below hb) (fun _ _ _=>trivial)⟩,hb⟩
theorem aad:(Tryz.prog.info? 25).map (·.size)=some 3:=by kernel_rfl
theorem wG.amQ {w6 X:World} {S:Nat→Prop} {A:Option Addr} {c g o:Nat} {l:List Sh} {v:List Value} (h:wG w6 S A c l) (hb:Below w6.heap.size w6 X) (hg:∀ b,b<w6.heap.size→S b→b≠g):wG (X.setCells g o v) S A c l:=
 h.keep (by rw [setCells_size];exact hb.size) fun b i hs hl=>(kN _ _ _ _ (hg b hl hs)).trans (hb.cell (p:=⟨b,i,none⟩) hl)
theorem amo {a b:Int} (h:aU [a,b]=0):a=0∧b=0:=by
 unfold aU at h
 split at h
 · next h1=>exact absurd h h1
 · next h1=>
   have ha:a=0:=by simpa using h1
   refine ⟨ha,?_⟩
   unfold aU at h
   split at h
   · next h2=>exact absurd h h2
   · next h2=>simpa using h2
theorem atz {r:M.Rules} {l:List M.aI} {k:Nat} (hr:M.aH r=0) (hl:M.je l=0) (hk:k<l.length) (hg:M.legal r (M.TS r l k) l[k]=0):ZL r (M.TS r l k) l[k]:=
 ⟨((M.adi l).1 hl).2 _ (List.getElem_mem hk),hr,aqE hr hl k,M.lawful hg⟩
structure ac5 (S:Nat→Prop) (r:M.Rules) (pl:List M.aI) (w:World) (B5 k m:Nat) (L:List StE) (A:Option Addr) (c:Nat) (s:M.State) (As:Option Addr) (cs:Nat) (W:World):Prop where
 lst:StL r pl k L
 hr:Held W w.heap.size ([.string r.game,.int .i64 r.target,.int .i64 r.aY]) 25
 hs:Held W B5 (aW s As cs) 42
 rs:bD W (fun b=>(fun b=>((S b∧b<w.heap.size)∨w.heap.size+1≤b)∧b≠B5) b∧(Value.slice A L.length c).ownBlock≠some b) As cs s.ay
 row:Zo 42 (B5+1) (fun b=>((S b∧b<w.heap.size)∨w.heap.size+1≤b)∧b≠B5) L A c W
 lt:w.heap.size<B5
 hse:s=M.TS r pl m
 bw:Below w.heap.size w W
theorem ac5.below {S:Nat→Prop} {r:M.Rules} {pl:List M.aI} {w:World} {B5 k m:Nat} {L:List StE} {A:Option Addr} {c:Nat} {s:M.State} {As:Option Addr} {cs:Nat} {W W':World} (h:ac5 S r pl w B5 k m L A c s As cs W) (hb:Below W.heap.size W W'):ac5 S r pl w B5 k m L A c s As cs W':=
 ⟨h.lst,h.hr.below hb,h.hs.below hb,h.rs.below hb,h.row.below hb,h.lt,h.hse,VY h.bw hb⟩
theorem ac5.drew {S:Nat→Prop} {r:M.Rules} {pl:List M.aI} {w:World} {B5 k m:Nat} {L:List StE} {A:Option Addr} {c:Nat} {s:M.State} {As:Option Addr} {cs:Nat} {W:World} (h:ac5 S r pl w B5 k m L A c s As cs W):ac5 S r pl w B5 k m L A c s As cs W.drew:=
 ⟨h.lst,h.hr,h.hs,h.rs,h.row.drew,h.lt,h.hse,h.bw.drew⟩
theorem ac5.set {S:Nat→Prop} {r:M.Rules} {pl:List M.aI} {w:World} {B5 k m m':Nat} {L:List StE} {A:Option Addr} {c:Nat} {s t:M.State} {As A3:Option Addr} {cs c3:Nat} {W W3:World} (h:ac5 S r pl w B5 k m L A c s As cs W) (hb:Below W.heap.size W W3)
 (hr:bD W3 (fun b=>((fun b=>(fun b=>((S b∧b<w.heap.size)∨w.heap.size+1≤b)∧b≠B5) b∧(Value.slice A L.length c).ownBlock≠some b) b∧b<W.heap.size)∨W.heap.size≤b) A3 c3 t.ay) (ht:t=M.TS r pl m'):Held W3 B5 (aW s As cs) 42∧ac5 S r pl w B5 k m' L A c t A3 c3 (W3.setCells B5 0 (aW t A3 c3)):=by
 have h5:=h.hs.lt
 have hl:=h.lt
 have hs:=hb.size
 refine ⟨h.hs.below hb,h.lst,Held.others (by omega) _ _ _ (h.hr.below hb),(h.hs.below hb).whole _ rfl,bD.sets (fun hx=>hx.1.2 rfl) _ _ _ (bD.more hr (fun b _ hx=>?_)),(h.row.below hb).sets (by omega) (fun hx=>hx.2 rfl) _ _,h.lt,ht,below_setCells _ (by omega) _ _ _ _ (VY h.bw hb)⟩
 rcases hx with hx | hx
 · exact hx.1
 · exact ⟨⟨.inr (by omega),by omega⟩,fun e=>by have:=ar0 h.row.own e;omega⟩
noncomputable def ajx (n:Nat):Code:=dQ n ((Tryz.f67).body.getD .skip)
@[reducible] def asX (S:Nat→Prop) (r:M.Rules) (l:List Sh) (A0:Option Addr) (c0:Nat) (w:World) (F:Value→Value→Value→Value→World→Prop) (n:Nat):Prop:=∀ (z0 z1 z2 z3 z4 z5 z6 z7 z8 z9 z10 z11 z12 z13 kD kK kF z17 kL jQ z20 z21 z22 z23 z24 z25 z26 z27 z28 z29 z30 z31 z32 z33 z34 z35 z36 z37:Value) (W:World),F z1 z2 z5 z6 W→(ajx n).wp Tryz.prog (bodyPost Tryz.prog Tryz.f67 (fun e w'=>∃ L A' c',e= .returned (.slice A' L.length c')∧StL r (plain l) l.length L∧RdT w' (fun b=>(S b∧b<w.heap.size)∨w.heap.size≤b) A' c' L∧Below w.heap.size w w')) {tmps:= #[z0,z1,z2,z3,z4,z5,z6,z7,z8,z9,z10,z11,z12,z13,kD,kK,kF,z17,kL,jQ,z20,z21,z22,z23,z24,z25,z26,z27,z28,z29,z30,z31,z32,z33,z34,z35,z36,z37],defers:=[] } W
@[reducible] def apr (S:Nat→Prop) (r:M.Rules) (l:List Sh) (A0:Option Addr) (c0:Nat) (w:World):Prop:=asX S r l A0 c0 w (fun z1 z2 z5 z6 W=>z1= .slice A0 l.length c0∧z2=ptr w.heap.size∧∃ B5 L A c s As cs,z5=ptr B5∧z6= .slice A (L:List StE).length c∧ac5 S r (plain l) w B5 0 0 L A c s As cs W) 3
theorem au4 (S:Nat→Prop) (r:M.Rules) (l:List Sh) (A0:Option Addr) (c0:Nat) (w:World) (HP:Hid (wG w (fun b=>S b∧b<w.heap.size) A0 c0 l)) (wZ:Hid (M.aH r=0∧M.je (plain l)=0)):apr S r l A0 c0 w:=by
 dsimp only [apr,asX]
 intro z0 _ _ z3 z4 _ _ _ z8 z9 z10 z11 z12 z13 kD kK kF z17 kL jQ z20 z21 z22 z23 z24 z25 z26 z27 z28 z29 z30 z31 z32 z33 z34 z35 z36 z37 W hf
 dsimp only [ajx,dQ,Tryz.f67,Option.getD]
 obtain ⟨rfl,rfl,B5,L0,Aa,ca,s0,As0,cs0,rfl,rfl,hI⟩:=hf
 have hp:=HP.out
 obtain ⟨b1,b2,b3⟩:=hp.bd
 have hn:=((M.adi _).1 wZ.out.2).1
 rw [eF] at hn
 obtain ⟨i0,hi0,hz0,hz1,hz2⟩:=info_parts alf
 apply wp_seq_k
 intro K1 hK1
 have Q9:=hide hK1
 clear hK1
 apply wp_seq_k
 intro K2 hK2
 have PD:=hide hK2
 clear hK2
 go_wp2
 refine PD.out _ _ ?_
 go_wp2
 go_loopw [6,7] (fun v i wr=>∃ (k:Nat) (L:List StE) (A:Option Addr) (c:Nat) (s:M.State) (As:Option Addr) (cs:Nat),k≤l.length∧i= .int .i64 k∧v= .slice A L.length c∧ac5 S r (plain l) w B5 k k L A c s As cs wr) (fun _ i=>fun _=>l.length - (intOf i).toNat)
 case atStart=>exact ⟨0,_,_,_,_,_,_,Nat.zero_le _,rfl,rfl,hI⟩
 case round=>
  clear hI
  obtain ⟨k,L,A,c,s,As,cs,hk,rfl,rfl,hI⟩:=hrel
  by_cases hlt:k<l.length
  · obtain ⟨b,o,rfl,hSb,hbl,hcs⟩:=Reads.at_ (hp.below hI.bw).1 (by omega)
    have h00:wr.rangeAt b (o+k*7) (au l[k]):=fun j v hj=>by
     have hj7:j<7:=(List.getElem?_eq_some_iff.1 hj).1
     rw [Nat.add_assoc]
     exact hcs _ _ ((jI l k hlt j hj7).trans hj)
    have hpo:=(hp.below hI.bw).aA k hlt
    have hNX:=fun hg=>atz (r:=r) (l:=plain l) (k:=k) wZ.out.1 wZ.out.2 (by rw [eF];exact hlt) hg
    rw [← hI.hse,Iu l k hlt] at hNX
    have hst1:=aoe (r:=r) (l:=plain l) (k:=k) (by rw [eF];exact hlt)
    rw [← hI.hse,Iu l k hlt] at hst1
    obtain ⟨e,he⟩:∃ q,l[k]=q:=⟨_,rfl⟩
    rw [he] at h00 hpo hNX hst1
    have hLE:=fun W' (h:(fun w':World=>Below wr.heap.size wr w') W')=>acy (fun _=>True) r s e.x As e.a cs e.c W' ((bD.more hI.rs (fun _ _ _=>trivial)).below h) (Reads.below (Reads.more hpo (fun _ _ _=>trivial)) h)
    have QH:=hide hLE
    have aso:=hide hst1
    have VP:=hide hNX
    have UC:=hide hpo
    have hr0:∀ W',(fun w':World=>Below wr.heap.size wr w') W'→W'.rangeAt w.heap.size 0 ([.string r.game,.int .i64 r.target,.int .i64 r.aY]):=fun W' h=>(hI.hr.below h).range
    have hr1:∀ W',(fun w':World=>Below wr.heap.size wr w') W'→W'.rangeAt B5 0 (aW s As cs):=fun W' h=>(hI.hs.below h).range
    have SC:∀ W',(fun w':World=>Below wr.heap.size wr w') W'→W'.rangeAt b (o+k*7) (au e):=fun W' h j v hj=>(h.cell (p:=⟨b,o+k*7+j,none⟩) hbl).trans (h00 j v hj)
    have i1:(0:Int)≤(k:Int):=by omega
    have i2:(k:Int)<(l.length:Int):=by omega
    clear hLE hst1 hNX he hcs hp hpo
    have avb:=hide h00
    clear h00
    go_wp2
    rename_i K8 hK8 KC hKC
    have J:∀ (s2:M.State) (As2:Option Addr) (cs2:Nat) (z12 z13 kD kK kF z17 kL jQ z20 z21 z22 z23 z24 z25 z26 z27 z28 z29 z30 z31 z32 z33 z34 z35 z36:Value) (wx:World),(ac5 S r (plain l) w B5 k (k+1) L A c s2 As2 cs2 wx)→K8 {tmps:= #[z0,.slice (some ⟨b,o,none⟩) l.length c0,ptr w.heap.size,z3,z4,ptr B5,.slice A L.length c,.int .i64 (k:Int),z8,z9,z10,z11,z12,z13,kD,kK,kF,z17,kL,jQ,z20,z21,z22,z23,z24,z25,z26,z27,z28,z29,z30,z31,z32,z33,z34,z35,z36,z37],defers:=[] } wx:=by
     intro s2 As2 cs2 z12 z13 kD kK kF z17 kL jQ z20 z21 z22 z23 z24 z25 z26 z27 z28 z29 z30 z31 z32 z33 z34 z35 z36 wx hrel
     refine hK8 _ _ ?_
     try dsimp only
     have hI:=hrel
     have hsx:Held wx B5 [.int .i64 s2.turn,.bool s2.brk,.bool s2.hand,.bool s2.push,.bool s2.pushed,.int .i64 s2.group,.slice As2 s2.ay.length cs2,.int .i64 s2.s0,.int .i64 s2.s1,.int .i64 s2.f0,.int .i64 s2.f1,.int .i64 s2.run,.int .i64 s2.aZ,.bool s2.over,.int .i64 s2.bC] 42:=hI.hs
     have hlL:=hI.lst.len
     have hltx:=hI.hs.lt
     have HLL:=hide hlL
     have hL1:L.length≤1001:=by omega
     clear hlL
     go_wp2_with (first | (refine aN 42 (.tmp 5) rfl ?_;refine aG (hsx) Tryz.underlying42 rfl Zc rfl (.tmp 5) rfl rfl ?_) | (at_builtin;refine wpList_append_lies _ rfl _ _ _ rfl (B5+1) 42 i0 (.agg aj.toArray) 15 112 Tryz.underlying135 hi0 hz0 hz1 hz2 rfl (by omega) _ _ _ rfl (hI.row.own.alloc _) ⟨wx.heap.size,0,none⟩ 1 1 [.int .i64 s2.turn,.bool s2.brk,.bool s2.hand,.bool s2.push,.bool s2.pushed,.int .i64 s2.group,.slice As2 s2.ay.length cs2,.int .i64 s2.s0,.int .i64 s2.s1,.int .i64 s2.f0,.int .i64 s2.f1,.int .i64 s2.run,.int .i64 s2.aZ,.bool s2.over,.int .i64 s2.bC] rfl rfl (dK _ _ _ _ rfl) (dL s2 As2 cs2) (by omega) (by simp only [maxLen];omega) (by omega) (by simp;omega) (wx.heap.size+1) (by simp) ?_))
     intro g1 cap w4 hown4 hgrow hat _
     have hge:∀ g,(Value.slice A L.length c).ownBlock=some g→B5+1≤g:=fun g hg=>(bg hI.row.own hg).1
     have hl5:=hI.lt
     have hI4:ac5 S r (plain l) w B5 (k+1) (k+1) (L++[⟨s2,As2,cs2⟩]) (some ⟨g1,0,none⟩) cap s2 As2 cs2 w4:=by
      have hl1:(L++[(⟨s2,As2,cs2⟩:StE)]).length=L.length+1:=by simp
      refine ⟨hI.lst.snoc hI.hse,hI.hr.blk (aaZ hgrow (by omega) (fun e=>by have:=hge _ e;omega)),hI.hs.blk (aaZ hgrow hltx (fun e=>by have:=hge _ e;omega)),?_,hI.row.append (x:=⟨s2,As2,cs2⟩) hI.rs hgrow hown4 hat,hI.lt,hI.hse,hI.bw.trans (anF hgrow (fun g hg=>by have:=hge g hg;omega) hI.bw.size)⟩
      rw [hl1]
      exact Zo.apart hgrow hat hI.rs
     have HI4:=hide hI4
     clear hI4 hown4 hgrow hge hat hI hrel hsx
     go_wp2
     go_roundw
     case rel=>exact ⟨k+1,L++[⟨s2,As2,cs2⟩],some ⟨g1,0,none⟩,cap,s2,As2,cs2,by omega,by go_num,by simp,HI4.out⟩
     case measure=>simp [intOf];omega
    clear hK8
    have HJ:=hide J
    clear J
    by_cases Vb:M.legal r s e.x=0
    · have q1:(M.legal r s e.x == 0)=true:=by simpa using Vb
      have HLG:=hide Vb
      clear Vb
      refine wp_region_held_drew (S:=(fun w':World=>Below wr.heap.size wr w')) (by kernel_rfl) ?jw (fun hHeld=>?_)
      case jw=>exact (Below.refl _ _).drew
      refine wpAnyH_take (i:=0) (oi:=_) (v:=_) (ga rfl) (by kernel_rfl) (by kernel_rfl) (by kernel_rfl) (fun _ _ _ h=>h) (yieldsIf_load_mid (by rfl) _ _ (by rfl) _ _ (by rfl) _ _ hr0 Tryz.underlying25 rfl (by kernel_rfl)) (by assumption) ?_
      try simp only [Act.put,la,lz,ls]
      refine wpAnyH_take (i:=1) (oi:=_) (v:=_) (ga rfl) (by kernel_rfl) (by kernel_rfl) (by kernel_rfl) (fun _ _ _ h=>h) (yieldsIf_load_mid (by rfl) _ _ (by rfl) _ _ (by rfl) _ _ hr1 Tryz.underlying42 rfl (by kernel_rfl)) (by assumption) ?_
      try simp only [Act.put,la,lz,ls]
      refine tk 2 ?_
      refine tk 3 ?_
      refine tk 4 ?_
      refine wpAnyH_take (i:=5) (oi:=_) (v:=_) (ga rfl) (by kernel_rfl) (by kernel_rfl) (by kernel_rfl) (fun _ _ _ h=>h) (yieldsIf_load_mid (by rfl) _ _ (by rfl) _ _ (by rfl) _ _ SC Tryz.underlying69 rfl (by kernel_rfl)) (by assumption) ?_
      try simp only [Act.put,la,lz,ls]
      refine tr 6 fun K hK=>?_
      go_simp
      (go_at_call 46;refine (QH.out _ hHeld).mono ?_;rintro e w2 ⟨rfl,hb2⟩)
      refine hK.out _ _ ?Tn (fun hHeld=>?_)
      case Tn=>(exact hHeld.trans (hb2.mono hHeld.size))
      clear hK K
      try simp only [Act.put,la,lz,ls]
      refine tk 7 ?_
      refine wpAnyH_done (by kernel_rfl) ?_ _
      refine hKC _ _ ?_
      refine wp_cond_true rfl ?_
      refine ZM (p:=fun W=>Code.wp _ _ _ _ W) (fun wz hwz=>?_)
      have hHz:Below wr.heap.size wr wz:=by rw [hwz];exact hHeld
      clear hwz hHeld
      have hIz:=hI.below hHz
      clear hr0 hr1 SC hb2 QH
      obtain ⟨tn,htn⟩:∃ q,M.next r s e.x=q:=⟨_,rfl⟩
      have hpo:=UC.out.below hHz
      have hge:∀ g,(Value.slice A L.length c).ownBlock=some g→B5+1≤g:=fun g hg=>(bg hI.row.own hg).1
      have hl5:=hI.lt
      have hnx:=fun W' (h:Below wz.heap.size wz W')=>alR (fun b=>(fun b=>((S b∧b<w.heap.size)∨w.heap.size+1≤b)∧b≠B5) b∧(Value.slice A L.length c).ownBlock≠some b) r s e.x As e.a cs e.c W' (hIz.rs.below h) (Reads.below (Reads.more hpo (fun b _ h=>⟨⟨.inl h,by omega⟩,fun e=>by have:=hge _ e;omega⟩)) h) (VP.out HLG.out)
      rw [htn] at hnx
      have VK:=hide hnx
      have HTN:=hide (show tn=M.TS r (plain l) (k+1) by rw [aso.out,aqL HLG.out,htn])
      have hwz:=hHz.size
      have hr0:∀ W',(fun w':World=>∀ p q,p<wz.heap.size→p≠B5→w'.cell? ⟨p,q,none⟩=wz.cell? ⟨p,q,none⟩) W'→W'.rangeAt w.heap.size 0 ([.string r.game,.int .i64 r.target,.int .i64 r.aY]):=fun W' h j v hj=>by rw [h _ _ hIz.hr.lt (by omega)];exact hIz.hr.range j v hj
      have SC:∀ W',(fun w':World=>∀ p q,p<wz.heap.size→p≠B5→w'.cell? ⟨p,q,none⟩=wz.cell? ⟨p,q,none⟩) W'→W'.rangeAt b (o+k*7) (au e):=fun W' h j v hj=>by rw [h _ _ (by omega) (by omega)];exact (hHz.cell (p:=⟨b,o+k*7+j,none⟩) hbl).trans (avb.out j v hj)
      clear hnx htn hpo hge
      refine wp_region_held_drew (S:=(fun w':World=>∀ p q,p<wz.heap.size→p≠B5→w'.cell? ⟨p,q,none⟩=wz.cell? ⟨p,q,none⟩)) (by kernel_rfl) ?eP (fun hHeld=>?_)
      case eP=>exact fun p q _ _=>rfl
      refine wpAnyH_take (i:=0) (oi:=_) (v:=_) (ga rfl) (by kernel_rfl) (by kernel_rfl) (by kernel_rfl) (fun _ _ _ h=>h) (yieldsIf_load_mid (by rfl) _ _ (by rfl) _ _ (by rfl) _ _ hr0 Tryz.underlying25 rfl (by kernel_rfl)) (by assumption) ?_
      try simp only [Act.put,la,lz,ls]
      refine tk 2 ?_
      refine tk 3 ?_
      refine tk 4 ?_
      refine wpAnyH_take (i:=5) (oi:=_) (v:=_) (ga rfl) (by kernel_rfl) (by kernel_rfl) (by kernel_rfl) (fun _ _ _ h=>h) (yieldsIf_load_mid (by rfl) _ _ (by rfl) _ _ (by rfl) _ _ SC Tryz.underlying69 rfl (by kernel_rfl)) (by assumption) ?_
      try simp only [Act.put,la,lz,ls]
      refine tr 1 fun K hK=>?_
      refine aq6 (by kernel_rfl) ?_
      refine sD (show Held wz.drew B5 (aW s As cs) 42 from hIz.hs) Tryz.underlying42 rfl Zc (.tmp 5) rfl rfl ?_
      refine hK.out _ _ ?atG (fun hHeld=>?_)
      case atG=>(exact fun p q _ _=>rfl)
      clear hK K
      try simp only [Act.put,la,lz,ls]
      refine tr 6 fun K hK=>?_
      go_simp
      (go_at_call 47;refine (VK.out _ (Below.refl _ _).drew).mono ?_;rintro e3 w3 ⟨A3,c3,rfl,hr3,hb3⟩;obtain ⟨hH3,hJ3⟩:=ac5.set hIz.drew hb3 hr3 HTN.out)
      refine hK.out _ _ ?Lp (fun hHeld=>?_)
      case Lp=>(exact fun p q hp _=>hb3.cell (p:=⟨p,q,none⟩) hp)
      clear hK K
      try simp only [Act.put,la,lz,ls]
      refine tr 7 fun K hK=>?_
      refine aq6 (by kernel_rfl) ?_
      refine bF (cs:=aW s As cs) hH3 (aW tn A3 c3) rfl Zc (dL _ _ _) (.tmp 5) (.tmp 32) rfl rfl rfl ?_
      refine hK.out _ _ ?atN (fun hHeld=>?_)
      case atN=>(exact fun p q hp hn=>(kN _ _ _ _ hn).trans (hHeld p q hp hn))
      clear hK K
      try simp only [Act.put,la,lz,ls]
      refine wpAnyH_done (by kernel_rfl) ?_ _
      exact HJ.out tn A3 c3 _ _ _ _ _ _ _ _ _ _ _ _ _ _ _ _ _ _ _ _ _ _ _ _ _ _ hJ3
    · have q1:(M.legal r s e.x == 0)=false:=by simpa using Vb
      have HLG:=hide Vb
      clear Vb
      refine wp_region_held_drew (S:=(fun w':World=>Below wr.heap.size wr w')) (by kernel_rfl) ?lJ (fun hHeld=>?_)
      case lJ=>exact (Below.refl _ _).drew
      refine wpAnyH_take (i:=0) (oi:=_) (v:=_) (ga rfl) (by kernel_rfl) (by kernel_rfl) (by kernel_rfl) (fun _ _ _ h=>h) (yieldsIf_load_mid (by rfl) _ _ (by rfl) _ _ (by rfl) _ _ hr0 Tryz.underlying25 rfl (by kernel_rfl)) (by assumption) ?_
      try simp only [Act.put,la,lz,ls]
      refine wpAnyH_take (i:=1) (oi:=_) (v:=_) (ga rfl) (by kernel_rfl) (by kernel_rfl) (by kernel_rfl) (fun _ _ _ h=>h) (yieldsIf_load_mid (by rfl) _ _ (by rfl) _ _ (by rfl) _ _ hr1 Tryz.underlying42 rfl (by kernel_rfl)) (by assumption) ?_
      try simp only [Act.put,la,lz,ls]
      refine tk 2 ?_
      refine tk 3 ?_
      refine tk 4 ?_
      refine wpAnyH_take (i:=5) (oi:=_) (v:=_) (ga rfl) (by kernel_rfl) (by kernel_rfl) (by kernel_rfl) (fun _ _ _ h=>h) (yieldsIf_load_mid (by rfl) _ _ (by rfl) _ _ (by rfl) _ _ SC Tryz.underlying69 rfl (by kernel_rfl)) (by assumption) ?_
      try simp only [Act.put,la,lz,ls]
      refine tr 6 fun K hK=>?_
      go_simp
      (go_at_call 46;refine (QH.out _ hHeld).mono ?_;rintro e w2 ⟨rfl,hb2⟩)
      refine hK.out _ _ ?atV (fun hHeld=>?_)
      case atV=>(exact hHeld.trans (hb2.mono hHeld.size))
      clear hK K
      try simp only [Act.put,la,lz,ls]
      refine tk 7 ?_
      refine wpAnyH_done (by kernel_rfl) ?_ _
      refine hKC _ _ ?_
      refine wp_cond_false rfl ?_
      refine ZM (p:=fun W=>Code.wp _ _ _ _ W) (fun wz hwz=>?_)
      have hHz:Below wr.heap.size wr wz:=by rw [hwz];exact hHeld
      clear hwz hHeld
      have hIz:=hI.below hHz
      clear hr0 hr1 SC hb2 QH
      go_wp2
      exact HJ.out s As cs _ _ _ _ _ _ _ _ _ _ _ _ _ _ _ _ _ _ _ _ _ _ _ _ _ _ ⟨hIz.lst,hIz.hr,hIz.hs,hIz.rs,hIz.row,hIz.lt,by rw [aso.out,aqZ HLG.out],hIz.bw⟩
  · have hke:k=l.length:=by omega
    have i9:¬ ((k:Int)<(l.length:Int)):=by omega
    have hfin:StL r (plain l) l.length L∧RdT wr (fun b=>(S b∧b<w.heap.size)∨w.heap.size≤b) A c L:=by
     have h1:=hI.lst
     have hl1:=h1.len
     have hl5:=hI.lt
     rw [hke] at h1
     refine ⟨h1,hI.row.read (by omega) (fun b hb=> .inr (by omega)) (fun b hb=>?_)⟩
     rcases hb.1 with h | h
     · exact .inl h
     · exact .inr (by omega)
    have HF:=hide (And.intro hfin hI.bw)
    clear hke hfin hI hp
    go_wp2
    refine Q9.out _ _ ?_
    go_wp2
    go_ret
    exact ⟨L,A,c,rfl,HF.out.1.1,HF.out.1.2,HF.out.2⟩
theorem adf (S:Nat→Prop) (r:M.Rules) (l:List Sh) (A0:Option Addr) (c0:Nat) (w:World) (hp:wG w S A0 c0 l) (hr:M.aH r=0) (hl:M.je (plain l)=0):
 Calls Tryz.prog 67 #[jM r,.slice A0 l.length c0] w fun e w'=>∃ L A' c',e= .returned (.slice A' L.length c')∧StL r (plain l) l.length L∧RdT w' (fun b=>(S b∧b<w.heap.size)∨w.heap.size≤b) A' c' L∧Below w.heap.size w w':=by
 have HP:=hide (hp.more (S':=fun b=>S b∧b<w.heap.size) (fun b hb h=>⟨h,hb⟩))
 have arf:=hide (au4 S r l A0 c0 w HP (hide ⟨hr,hl⟩))
 obtain ⟨s0,hs0⟩:∃ q,M.start r=q:=⟨_,rfl⟩
 have hst:=fun W=>ak8 r W
 rw [hs0] at hst
 have HST:=hide hst
 have wZ:=hide (And.intro hr hl)
 have HS0:=hide hs0
 clear hst hr hl hs0
 go_enter Tryz.func67,Tryz.ntmps67
 apply wp_seq_k
 intro K hK
 have HK:=hide hK
 clear hK
 have hB0:=(bU.nil w).new (by simp) ([.string r.game,.int .i64 r.target,.int .i64 r.aY]) 25
 go_wp2
 refine HK.out _ _ ?_
 refine ZM (p:=fun W=>Code.wp _ _ _ _ W) (fun w0 hw0=>?_)
 have hB:bU w w0 [([.string r.game,.int .i64 r.target,.int .i64 r.aY],25)]:=by rw [hw0];exact hB0
 clear hw0 hB0
 apply wp_seq_k
 intro K hK
 have HK:=hide hK
 clear hK
 go_wp2_with (first | (refine aN 25 (.tmp 2) rfl ?_;refine aG (hB.bf rfl) Tryz.underlying25 rfl Zm rfl (.tmp 2) rfl rfl ?_) | (go_at_call 38;refine (HST.out _).mono ?_;rintro e w1 ⟨A1,c1,rfl,hr1,hb1⟩;have hB1:=hB.call (by simp) hb1;have hN1:=Held.new w1 aj 42) | (refine aO 42 (.tmp 5) (.tmp 9) rfl ?_;refine aF hN1 (aW s0 A1 c1) rfl Z8 (dL _ _ _) rfl (.tmp 5) (.tmp 9) rfl rfl rfl ?_))
 refine HK.out _ _ ?_
 refine ZM (p:=fun W=>Code.wp _ _ _ _ W) (fun w2 hw2=>?_)
 have hS2:Held w2 w1.heap.size (aW s0 A1 c1) 42:=by rw [hw2];exact hN1.whole (aW s0 A1 c1) rfl
 have hR2:Held w2 w.heap.size ([.string r.game,.int .i64 r.target,.int .i64 r.aY]) 25:=by rw [hw2];exact (Held.others (by have:=hB.bw.size;have:=hb1.size;have:=(hB.bf rfl).lt;omega) _ _ _ ((hB1.bf rfl).alloc _))
 have hb2:Below w1.heap.size w1 w2:=by rw [hw2];exact below_setCells _ (Nat.le_refl _) _ _ _ _ ((Below.refl _ _).alloc (Nat.le_refl _) _)
 have hq2:w2.heap.size=w1.heap.size+1:=by rw [hw2,setCells_size];simp
 have hlt1:w.heap.size<w1.heap.size:=(hB1.bf rfl).lt
 have hbw2:Below w.heap.size w w2:=hB1.bw.trans (hb2.mono (by omega))
 have hr2:bD w2 (fun b=>((S b∧b<w.heap.size)∨w.heap.size+1≤b)∧b≠w1.heap.size) A1 c1 s0.ay:=(bD.more hr1 (fun b hl h=>⟨.inr (by have h:w0.heap.size≤b:=h;have:=(hB.bf rfl).lt;omega),by omega⟩)).below hb2
 obtain ⟨B5,NM⟩:∃ q,w1.heap.size=q:=⟨_,rfl⟩
 rw [NM] at hS2 hq2 hlt1 hr2
 rw [NM]
 clear hw2 hb2 hB1 hN1 hr1 hb1 hB NM
 have hlit:=Zo.lit (e:=42) (D:=B5+1) (Z:=(fun b=>((S b∧b<w.heap.size)∨w.heap.size+1≤b)∧b≠B5)) w2 ⟨s0,A1,c1⟩ (by omega) hr2
 have hba:=(Below.refl w2.heap.size w2).alloc (Nat.le_refl _) (.cells (stC ⟨s0,A1,c1⟩).toArray 42)
 have hI0:ac5 S r (plain l) w B5 0 0 [⟨s0,A1,c1⟩] (some ⟨B5+1,0,none⟩) 1 s0 A1 c1 (w2.alloc (.cells (stC ⟨s0,A1,c1⟩).toArray 42)):=by
  rw [← hq2]
  exact ⟨⟨rfl,fun k hk=>by have hk0:k=0:=(by simp at hk;omega)
                           subst hk0;exact HS0.out.symm⟩,hR2.below hba,hS2.below hba,bD.more ((bD.more hr2 (S':=fun b=>(fun b=>((S b∧b<w.heap.size)∨w.heap.size+1≤b)∧b≠B5) b∧b<w2.heap.size) (fun b hb h=>⟨h,hb⟩)).below hba) (fun b _ h=>⟨h.1,fun e=>by cases e;exact Nat.lt_irrefl _ h.2⟩),hlit,hlt1,HS0.out.symm,VY hbw2 hba⟩
 have atc:Held w2 B5 [.int .i64 s0.turn,.bool s0.brk,.bool s0.hand,.bool s0.push,.bool s0.pushed,.int .i64 s0.group,.slice A1 s0.ay.length c1,.int .i64 s0.s0,.int .i64 s0.s1,.int .i64 s0.f0,.int .i64 s0.f1,.int .i64 s0.run,.int .i64 s0.aZ,.bool s0.over,.int .i64 s0.bC] 42:=hS2
 apply wp_seq_k
 intro K hK
 have HK:=hide hK
 clear hK
 go_wp2_with (first | (refine aN 42 (.tmp 5) rfl ?_;refine aG (atc) Tryz.underlying42 rfl Zc rfl (.tmp 5) rfl rfl ?_))
 refine HK.out _ _ ?_
 refine ZM (p:=fun W=>Code.wp _ _ _ _ W) (fun W0 hW0=>?_)
 have hI:ac5 S r (plain l) w B5 0 0 [⟨s0,A1,c1⟩] (some ⟨B5+1,0,none⟩) 1 s0 A1 c1 W0:=by rw [hW0];exact hI0
 clear hW0 hI0 hlit hba hR2 hS2 atc hr2 hbw2 hq2
 have HA:=arf.out
 apply HA
 exact ⟨rfl,rfl,_,_,_,_,_,_,_,rfl,rfl,hI⟩
def aeU (r:M.Rules) (s:M.State):List Sh→List Sh
 | []=>[]
 | x::l=>if M.legal r s x.x=0 then x::aeU r (M.step r s x.x) l else aeU r (M.step r s x.x) l
theorem afz (r:M.Rules) (x:Sh):∀ (l:List Sh) (s:M.State),aeU r s (l++[x])=aeU r s l++(if M.legal r (M.final r s (plain l)) x.x=0 then [x] else [])
 | [],s=>by simp only [List.nil_append,aeU,plain,List.map_nil,M.final,List.foldl_nil]
 | y::l,s=>by
   have e:M.final r s (plain (y::l))=M.final r (M.step r s y.x) (plain l):=rfl
   rw [List.cons_append,aeU,aeU,afz r x l,e]
   split <;> rfl
def adp (r:M.Rules) (l:List Sh) (k:Nat):List Sh:=aeU r (M.start r) (l.take k)
theorem ajV (r:M.Rules) (l:List Sh) (k:Nat) (hk:k<l.length):adp r l (k+1)=adp r l k++(if M.legal r (lQ r l k) l[k].x=0 then [l[k]] else []):=by
 unfold adp lQ
 rw [List.take_succ_eq_append_getElem hk,afz]
theorem ae2 (r:M.Rules) (l:List Sh):lK r l 0=[]:=by unfold lK;simp [plain,M.jy]
structure SpI (W0:World) (B7:Nat) (WL:World) (r:M.Rules) (l:List Sh) (k:Nat) (A9:Option Addr) (c9:Nat) (Yv:Option Addr) (c10:Nat) (W:World):Prop where
 arO:Turn (fun b=>b=B7∨WL.heap.size≤b) WL W
 lt7:B7<WL.heap.size
 ge7:W0.heap.size≤B7
 ahC:W.ownsRow WL.heap.size 66 7 (.slice A9 (adp r l k).length c9) (adp r l k).length (bI (adp r l k))
 agH:W.ownsRow WL.heap.size 51 2 (.slice Yv (lK r l k).length c10) (lK r l k).length ((lK r l k).flatMap am2)
 ne:∀ g,(Value.slice A9 (adp r l k).length c9).ownBlock=some g→(Value.slice Yv (lK r l k).length c10).ownBlock≠some g
 s:∃ As cs,Held W B7 (aW (lQ r l k) As cs) 33∧bD W (fun b=>b≠B7∧(Value.slice A9 (adp r l k).length c9).ownBlock≠some b∧(Value.slice Yv (lK r l k).length c10).ownBlock≠some b) As cs (lQ r l k).ay
 bw:Below W0.heap.size W0 W
section
variable {W0 WL W W':World} {B7 k c9 c10:Nat} {r:M.Rules} {l:List Sh} {A9 Yv:Option Addr}
theorem SpI.below (h:SpI W0 B7 WL r l k A9 c9 Yv c10 W) (hb:Below W.heap.size W W'):SpI W0 B7 WL r l k A9 c9 Yv c10 W':=by
 obtain ⟨As,cs,h1,h2⟩:=h.s
 exact ⟨h.arO.trans (X':=fun _=>False) (Turn.of_below hb) (fun b h=>h.elim),h.lt7,h.ge7,bT h.ahC (fun g hg=>hb.block g (ar0 h.ahC hg)),bT h.agH (fun g hg=>hb.block g (ar0 h.agH hg)),h.ne,⟨As,cs,h1.below hb,h2.below hb⟩,VY h.bw hb⟩
theorem SpI.set {t:M.State} {A1:Option Addr} {c1:Nat} {A9':Option Addr} {c9':Nat} (h:Turn (fun b=>b=B7∨WL.heap.size≤b) WL W) (lt7:B7<WL.heap.size) (ge7:W0.heap.size≤B7)
 (ahC:W.ownsRow WL.heap.size 66 7 (.slice A9' (adp r l (k+1)).length c9') (adp r l (k+1)).length (bI (adp r l (k+1))))
 (agH:W.ownsRow WL.heap.size 51 2 (.slice Yv (lK r l (k+1)).length c10) (lK r l (k+1)).length ((lK r l (k+1)).flatMap am2))
 (ne:∀ g,(Value.slice A9' (adp r l (k+1)).length c9').ownBlock=some g→(Value.slice Yv (lK r l (k+1)).length c10).ownBlock≠some g) (ht:lQ r l (k+1)=t) {cs0:List Value} (hs:Held W B7 cs0 33) (hl:cs0.length=15)
 (hr:bD W (fun b=>b≠B7∧(Value.slice A9' (adp r l (k+1)).length c9').ownBlock≠some b∧(Value.slice Yv (lK r l (k+1)).length c10).ownBlock≠some b) A1 c1 t.ay) (hb:Below W0.heap.size W0 W):
 SpI W0 B7 WL r l (k+1) A9' c9' Yv c10 (W.setCells B7 0 (aW t A1 c1)):=by
 subst ht
 have hf:∀ {e:TypeId} {size n:Nat} {v:Value} {xs:List Value},W.ownsRow WL.heap.size e size v n xs→(W.setCells B7 0 (aW (lQ r l (k+1)) A1 c1)).ownsRow WL.heap.size e size v n xs:=fun ho=>
  bT ho (fun g hg=>Held.lC (by have:=(bg ho hg).1;omega) _ _ _)
 exact ⟨h.trans (l7 (X:=fun b=>b=B7) rfl _ _) (fun b h=> .inl (.inl h)),lt7,ge7,hf ahC,hf agH,ne,⟨A1,c1,hs.whole _ (by rw [hl];rfl),bD.sets (fun h'=>h'.1 rfl) _ _ _ hr⟩,below_setCells _ ge7 _ _ _ _ hb⟩
theorem SpI.no {w4:World} {g1 cap:Nat} {o:Obj} (h:SpI W0 B7 WL r l k A9 c9 Yv c10 W) (hk:k<l.length) (hl:¬ M.legal r (lQ r l k) l[k].x=0) (hgrow:(W.alloc o).grownBy w4 (Value.slice Yv (lK r l k).length c10).ownBlock)
 (hown4:w4.ownsRow WL.heap.size 51 2 (.slice (some ⟨g1,0,none⟩) ((lK r l k).length+1) cap) ((lK r l k).length+1) ((lK r l k).flatMap am2++am2 ⟨(k:Int)+1,M.legal r (lQ r l k) l[k].x⟩)) (hat:(Value.slice Yv (lK r l k).length c10).ownBlock=some g1∨g1=W.heap.size+1):
 SpI W0 B7 WL r l (k+1) A9 c9 (some ⟨g1,0,none⟩) cap w4:=by
 have e1:adp r l (k+1)=adp r l k:=by rw [ajV r l k hk,if_neg hl,List.append_nil]
 have e2:lK r l (k+1)=lK r l k++[⟨(k:Int)+1,M.legal r (lQ r l k) l[k].x⟩]:=by rw [Ew r l k hk,if_pos hl]
 have e3:lQ r l (k+1)=lQ r l k:=by rw [vF r l k hk,aqZ hl]
 have hge:∀ g,(Value.slice Yv (lK r l k).length c10).ownBlock=some g→WL.heap.size≤g:=fun g hg=>(bg h.agH hg).1
 have h7:(Value.slice Yv (lK r l k).length c10).ownBlock≠some B7:=fun e=>by have:=hge _ e;have:=h.lt7;omega
 have hwl:WL.heap.size≤W.heap.size:=h.arO.size
 obtain ⟨As,cs,h1,h2⟩:=h.s
 have hne:∀ b,b<W.heap.size→(Value.slice Yv (lK r l k).length c10).ownBlock≠some b→(some g1:Option Nat)≠some b:=fun b hb hn e=>by
  cases e
  rcases hat with h3 | h3
  · exact hn h3
  · omega
 refine ⟨h.arO.trans (anx (X:=fun b=>WL.heap.size≤b) hgrow hge) (fun b hb=> .inl (.inr hb)),h.lt7,h.ge7,?_,?_,?_,⟨As,cs,?_,?_⟩,?_⟩
 · rw [e1]
   exact bT h.ahC (fun g hg=>aaZ hgrow (ar0 h.ahC hg) (h.ne g hg))
 · rw [e2,List.length_append,List.flatMap_append]
   have:[(⟨(k:Int)+1,M.legal r (lQ r l k) l[k].x⟩:M.uZ)].flatMap am2=am2 ⟨(k:Int)+1,M.legal r (lQ r l k) l[k].x⟩:=by simp
   rw [this]
   exact hown4
 · rw [e1]
   exact fun g hg=>hne g (ar0 h.ahC hg) (h.ne g hg)
 · rw [e3];exact h1.blk (aaZ hgrow (by have:=h.lt7;omega) h7)
 · rw [e1,e3]
   exact anp hgrow h2 (fun b hb hS=>⟨hS.2.2,hS.1,hS.2.1,hne b hb hS.2.2⟩)
 · exact h.bw.trans ((Below.refl _ _).trans ⟨hgrow.os,hgrow.tape,hgrow.output,Nat.le_trans (by simp) hgrow.size,fun b hb=>aaZ hgrow (by have:=h.bw.size;omega) (fun e=>by have:=hge b e;have:=h.ge7;have:=h.lt7;omega)⟩)
end
noncomputable def ajp (n:Nat):Code:=dQ n ((Tryz.f21).body.getD .skip)
@[reducible] def asP (S:Nat→Prop) (r:M.Rules) (l:List Sh) (A0:Option Addr) (c0:Nat) (w:World) (F:Value→Value→Value→Value→World→Prop) (n:Nat):Prop:=∀ (z0 z1 z2 z3 z4 z5 z6 z7 z8 z9 z10 z11 z12 z13 kD kK kF z17 kL jQ z20 z21 z22 z23 z24 z25 z26 z27 z28 z29 z30 z31 z32 z33 z34 z35 z36 z37 z38 z39 z40 z41 z42 z43:Value) (W:World),F z1 z2 z4 z6 W→(ajp n).wp Tryz.prog (bodyPost Tryz.prog Tryz.f21 (fun e w'=>∃ A1 c1 A2 c2,e= .returned (.tuple #[wF (M.final r (M.start r) (plain l)) A1 c1,.slice A2 (M.jy r (M.start r) 1 (plain l)).length c2])∧bD w' (fun b=>(S b∧b<w.heap.size)∨w.heap.size≤b) A1 c1 (M.final r (M.start r) (plain l)).ay∧Reads w' (fun b=>w.heap.size≤b) 2 A2 (M.jy r (M.start r) 1 (plain l)).length c2 ((M.jy r (M.start r) 1 (plain l)).flatMap am2)∧Below w.heap.size w w')) {tmps:= #[z0,z1,z2,z3,z4,z5,z6,z7,z8,z9,z10,z11,z12,z13,kD,kK,kF,z17,kL,jQ,z20,z21,z22,z23,z24,z25,z26,z27,z28,z29,z30,z31,z32,z33,z34,z35,z36,z37,z38,z39,z40,z41,z42,z43],defers:=[] } W
theorem aeM (r:M.Rules) (l:List Sh) (k:Nat):M.TS r (plain l) k=lQ r l k:=by
 unfold M.TS lQ plain
 rw [List.map_take]
theorem ai8:(Tryz.prog.info? 50).map (fun i=>(i.zero,i.size,i.bytes))=some (some (.agg #[.int .i64 0,.int .i64 0]),2,16):=by kernel_rfl
structure agY (S:Nat→Prop) (r:M.Rules) (l:List Sh) (w:World) (nb:Nat) (L:List StE) (A:Option Addr) (c:Nat) (W:World):Prop where
 lst:StL r (plain l) l.length L
 hr:Held W w.heap.size ([.string r.game,.int .i64 r.target,.int .i64 r.aY]) 25
 rt:RdT W (fun b=>(S b∧b<w.heap.size)∨w.heap.size+nb≤b) A c L
 bw:Below w.heap.size w W
theorem agY.below {S:Nat→Prop} {r:M.Rules} {l:List Sh} {w:World} {nb:Nat} {L:List StE} {A:Option Addr} {c:Nat} {W W':World} (h:agY S r l w nb L A c W) (hb:Below W.heap.size W W'):agY S r l w nb L A c W':=
 ⟨h.lst,h.hr.below hb,h.rt.below hb,VY h.bw hb⟩
theorem agY.at_ {S:Nat→Prop} {r:M.Rules} {l:List Sh} {w:World} {nb:Nat} {L:List StE} {A:Option Addr} {c:Nat} {W:World} (h:agY S r l w nb L A c W):∃ b o,A=some ⟨b,o,none⟩∧b<W.heap.size∧∀ k,k≤l.length→∃ As cs,W.rangeAt b (o+k*15) (aW (lQ r l k) As cs)∧bD W (fun b=>(S b∧b<w.heap.size)∨w.heap.size+nb≤b) As cs (lQ r l k).ay:=by
 have hl:=h.lst.len
 obtain ⟨b,o,e,_,hb,hc⟩:=Reads.at_ h.rt.1 (by omega)
 refine ⟨b,o,e,hb,fun k hk=>?_⟩
 have hkL:k<L.length:=by omega
 have hg:=(h.lst.get k hkL).trans (aeM r l k)
 have hr:=anT alv hc k hkL
 have hb2:=h.rt.2 _ (List.getElem_mem hkL)
 rw [hg] at hb2
 have he:stC L[k]=aW (lQ r l k) L[k].a L[k].c:=by unfold stC;rw [hg]
 rw [he] at hr
 exact ⟨_,_,hr,hb2⟩
@[reducible] def aph (S:Nat→Prop) (r:M.Rules) (l:List Sh) (A0:Option Addr) (c0:Nat) (w:World):Prop:=asP S r l A0 c0 w (fun z1 z2 z4 z6 W=>z1= .slice A0 l.length c0∧z2=ptr w.heap.size∧z4=ptr (w.heap.size+1)∧∃ L A c,z6= .slice A (L:List StE).length c∧agY S r l w 2 L A c W∧Held W (w.heap.size+1) aj 42) 2
theorem auX (S:Nat→Prop) (r:M.Rules) (l:List Sh) (A0:Option Addr) (c0:Nat) (w:World) (HP:Hid (wG w (fun b=>S b∧b<w.heap.size) A0 c0 l)) (wZ:Hid (M.aH r=0∧M.je (plain l)=0)):aph S r l A0 c0 w:=by
 dsimp only [aph,asP]
 intros
 rename_i W hf
 dsimp only [ajp,dQ,Tryz.f21,Option.getD]
 obtain ⟨rfl,rfl,rfl,L,A,c,rfl,hT,hz⟩:=hf
 have hp:=HP.out
 obtain ⟨b1,b2,b3⟩:=hp.bd
 have hn:=((M.adi _).1 wZ.out.2).1
 rw [eF] at hn
 obtain ⟨i0,hi0,hz0,hz1,hz2⟩:=info_parts ai8
 obtain ⟨WL,rfl⟩:∃ q:World,q=W:=⟨_,rfl⟩
 obtain ⟨bs,os,rfl,hbs,hAt⟩:=hT.at_
 have hLL:=hT.lst.len
 apply wp_seq_k
 intro K hK
 have HK:=hide hK
 clear hK
 go_wp2
 refine HK.out _ _ ?_
 apply wp_seq_k
 intro K1 hK1
 have Q9:=hide hK1
 clear hK1
 apply wp_seq_k
 intro K2 hK2
 have PD:=hide hK2
 clear hK2
 go_wp2
 refine PD.out _ _ ?_
 have h00:Below WL.heap.size WL WL:=Below.refl _ _
 have hLn:=hide hLL
 clear hLL
 go_wp2
 go_loopw [7,8] (fun v i wr=>∃ (k:Nat) (A2:Option Addr) (c2:Nat),k≤l.length∧i= .int .i64 k∧v= .slice A2 (lK r l k).length c2∧Below WL.heap.size WL wr∧wr.ownsRow WL.heap.size 50 2 (.slice A2 (lK r l k).length c2) (lK r l k).length ((lK r l k).flatMap am2)) (fun _ i=>fun _=>l.length - (intOf i).toNat)
 case atStart=>exact ⟨0,none,0,Nat.zero_le _,rfl,by rw [ae2];rfl,h00,by rw [ae2];exact World.ownsRow_nil _ _ _ _⟩
 case round=>
  obtain ⟨k,A2,c2,hk,rfl,rfl,hbr,hor⟩:=hrel
  by_cases hlt:k<l.length
  · obtain ⟨b,o,rfl,hSb,hbl,hcs⟩:=Reads.at_ ((hp.below hT.bw).below hbr).1 (by omega)
    have h01:wr.rangeAt b (o+k*7) (au l[k]):=fun j v hj=>by
     have hj7:j<7:=(List.getElem?_eq_some_iff.1 hj).1
     rw [Nat.add_assoc]
     exact hcs _ _ ((jI l k hlt j hj7).trans hj)
    have hpo:=((hp.below hT.bw).below hbr).aA k hlt
    obtain ⟨As,cs,hsr,hsb⟩:=hAt k hk
    obtain ⟨lg,hlk⟩:∃ q,M.legal r (lQ r l k) l[k].x=q:=⟨_,rfl⟩
    have hrl:=zY r l k
    have WU:=hide hlk
    have hLE:=fun W' (h:(fun w':World=>Below wr.heap.size wr w') W')=>acy (fun _=>True) r (lQ r l k) l[k].x As l[k].a cs l[k].c W' ((bD.more (hsb.below hbr) (fun _ _ _=>trivial)).below h) (Reads.below (Reads.more hpo (fun _ _ _=>trivial)) h)
    rw [hlk] at hLE
    have QH:=hide hLE
    have hr0:∀ W',(fun w':World=>Below wr.heap.size wr w') W'→W'.rangeAt w.heap.size 0 ([.string r.game,.int .i64 r.target,.int .i64 r.aY]):=fun W' h=>((hT.hr.below hbr).below h).range
    have hr4:∀ W',(fun w':World=>Below wr.heap.size wr w') W'→W'.rangeAt bs (os+k*15) (aW (lQ r l k) As cs):=fun W' h j v hj=>(h.cell (p:=⟨bs,os+k*15+j,none⟩) (Nat.lt_of_lt_of_le hbs hbr.size)).trans ((hbr.cell (p:=⟨bs,os+k*15+j,none⟩) hbs).trans (hsr j v hj))
    have Wu:∀ W',(fun w':World=>Below wr.heap.size wr w') W'→W'.rangeAt b (o+k*7) (au l[k]):=fun W' h j v hj=>(h.cell (p:=⟨b,o+k*7+j,none⟩) hbl).trans (h01 j v hj)
    have i1:(0:Int)≤(k:Int):=by omega
    have i2:(k:Int)<(l.length:Int):=by omega
    have i3:(k:Int)<(L.length:Int):=by have:=hLn.out;omega
    clear hLE hlk hcs hp hpo h01 hsr hsb
    go_wp2
    rename_i K7 hK7
    by_cases Vb:lg≠0
    · have q1:(lg != 0)=true:=by simpa using Vb
      have HLG:=hide Vb
      clear Vb
      refine wp_region_held_drew (S:=(fun w':World=>Below wr.heap.size wr w')) (by kernel_rfl) ?rQ (fun hHeld=>?_)
      case rQ=>exact (Below.refl _ _).drew
      refine wpAnyH_take (i:=0) (oi:=_) (v:=_) (ga rfl) (by kernel_rfl) (by kernel_rfl) (by kernel_rfl) (fun _ _ _ h=>h) (yieldsIf_load_mid (by rfl) _ _ (by rfl) _ _ (by rfl) _ _ hr0 Tryz.underlying25 rfl (by kernel_rfl)) (by assumption) ?_
      try simp only [Act.put,la,lz,ls]
      refine tk 1 ?_
      refine tk 2 ?_
      refine tk 3 ?_
      refine wpAnyH_take (i:=4) (oi:=_) (v:=_) (ga rfl) (by kernel_rfl) (by kernel_rfl) (by kernel_rfl) (fun _ _ _ h=>h) (yieldsIf_load_mid (by rfl) _ _ (by rfl) _ _ (by rfl) _ _ hr4 Tryz.underlying42 rfl (by kernel_rfl)) (by assumption) ?_
      try simp only [Act.put,la,lz,ls]
      refine tk 5 ?_
      refine tk 6 ?_
      refine tk 7 ?_
      refine wpAnyH_take (i:=8) (oi:=_) (v:=_) (ga rfl) (by kernel_rfl) (by kernel_rfl) (by kernel_rfl) (fun _ _ _ h=>h) (yieldsIf_load_mid (by rfl) _ _ (by rfl) _ _ (by rfl) _ _ Wu Tryz.underlying69 rfl (by kernel_rfl)) (by assumption) ?_
      try simp only [Act.put,la,lz,ls]
      refine tr 9 fun K hK=>?_
      go_simp
      (go_at_call 46;refine (QH.out _ hHeld).mono ?_;rintro e w2 ⟨rfl,hb2⟩)
      refine hK.out _ _ ?at7 (fun hHeld=>?_)
      case at7=>(exact hHeld.trans (hb2.mono hHeld.size))
      clear hK K
      try simp only [Act.put,la,lz,ls]
      refine tk 10 ?_
      refine wpAnyH_done (by kernel_rfl) ?_ _
      refine hK7 _ _ ?_
      refine ZM (p:=fun W=>Code.wp _ _ _ _ W) (fun wz hwz=>?_)
      have hHz:Below wr.heap.size wr wz:=by rw [hwz];exact hHeld
      clear hwz hHeld
      clear hr0 hr4 Wu hb2 QH
      have hbz:Below WL.heap.size WL wz:=hbr.trans (hHz.mono hbr.size)
      have hoz:wz.ownsRow WL.heap.size 50 2 (.slice A2 (lK r l k).length c2) (lK r l k).length ((lK r l k).flatMap am2):=bT hor (fun g hg=>hHz.block g (ar0 hor hg))
      have hsz:=hbz.size
      go_wp2_with (first | (at_builtin;refine wpList_append_lies _ rfl _ _ _ rfl WL.heap.size 50 i0 (.agg #[.int .i64 0,.int .i64 0]) 2 16 Tryz.underlying43 hi0 hz0 hz1 hz2 rfl (by omega) _ _ _ rfl (hoz.alloc _) ⟨wz.heap.size,0,none⟩ 1 1 [.int .i64 ((k:Int)+1),.int .i64 lg] rfl rfl (dK _ _ _ _ rfl) (by simp [Value.oneCell']) (by omega) (by simp only [maxLen];omega) (by omega) (by simp;omega) (wz.heap.size+1) (by simp) ?_))
      intro g1 cap w4 hown4 hgrow hat _
      have hge:∀ g,(Value.slice A2 (lK r l k).length c2).ownBlock=some g→WL.heap.size≤g:=fun g hg=>(bg hoz hg).1
      have hb4:Below WL.heap.size WL w4:=hbz.trans (anF hgrow hge hsz)
      have hrf:lK r l (k+1)=lK r l k++[⟨(k:Int)+1,lg⟩]:=by rw [Ew r l k hlt,WU.out,if_pos HLG.out]
      have Fp:w4.ownsRow WL.heap.size 50 2 (.slice (some ⟨g1,0,none⟩) (lK r l (k+1)).length cap) (lK r l (k+1)).length ((lK r l (k+1)).flatMap am2):=by
       rw [hrf,List.length_append,List.flatMap_append]
       have:[(⟨(k:Int)+1,lg⟩:M.uZ)].flatMap am2=[.int .i64 ((k:Int)+1),.int .i64 lg]:=rfl
       rw [this]
       exact hown4
      have hl1:(lK r l (k+1)).length=(lK r l k).length+1:=by rw [hrf,List.length_append];rfl
      have H4:=hide (And.intro hb4 Fp)
      have HL1:=hide hl1
      clear hb4 Fp hown4 hgrow hat hge hrf hl1 hoz hbz hsz
      go_wp2
      go_roundw
      case rel=>exact ⟨k+1,some ⟨g1,0,none⟩,cap,by omega,by go_num,by rw [HL1.out],H4.out.1,H4.out.2⟩
      case measure=>simp [intOf];omega
    · have Vb:=Classical.not_not.1 Vb
      have q1:(lg != 0)=false:=by simpa using Vb
      have HLG:=hide Vb
      clear Vb
      refine wp_region_held_drew (S:=(fun w':World=>Below wr.heap.size wr w')) (by kernel_rfl) ?uQ (fun hHeld=>?_)
      case uQ=>exact (Below.refl _ _).drew
      refine wpAnyH_take (i:=0) (oi:=_) (v:=_) (ga rfl) (by kernel_rfl) (by kernel_rfl) (by kernel_rfl) (fun _ _ _ h=>h) (yieldsIf_load_mid (by rfl) _ _ (by rfl) _ _ (by rfl) _ _ hr0 Tryz.underlying25 rfl (by kernel_rfl)) (by assumption) ?_
      try simp only [Act.put,la,lz,ls]
      refine tk 1 ?_
      refine tk 2 ?_
      refine tk 3 ?_
      refine wpAnyH_take (i:=4) (oi:=_) (v:=_) (ga rfl) (by kernel_rfl) (by kernel_rfl) (by kernel_rfl) (fun _ _ _ h=>h) (yieldsIf_load_mid (by rfl) _ _ (by rfl) _ _ (by rfl) _ _ hr4 Tryz.underlying42 rfl (by kernel_rfl)) (by assumption) ?_
      try simp only [Act.put,la,lz,ls]
      refine tk 5 ?_
      refine tk 6 ?_
      refine tk 7 ?_
      refine wpAnyH_take (i:=8) (oi:=_) (v:=_) (ga rfl) (by kernel_rfl) (by kernel_rfl) (by kernel_rfl) (fun _ _ _ h=>h) (yieldsIf_load_mid (by rfl) _ _ (by rfl) _ _ (by rfl) _ _ Wu Tryz.underlying69 rfl (by kernel_rfl)) (by assumption) ?_
      try simp only [Act.put,la,lz,ls]
      refine tr 9 fun K hK=>?_
      go_simp
      (go_at_call 46;refine (QH.out _ hHeld).mono ?_;rintro e w2 ⟨rfl,hb2⟩)
      refine hK.out _ _ ?aug (fun hHeld=>?_)
      case aug=>(exact hHeld.trans (hb2.mono hHeld.size))
      clear hK K
      try simp only [Act.put,la,lz,ls]
      refine tk 10 ?_
      refine wpAnyH_done (by kernel_rfl) ?_ _
      refine hK7 _ _ ?_
      refine ZM (p:=fun W=>Code.wp _ _ _ _ W) (fun wz hwz=>?_)
      have hHz:Below wr.heap.size wr wz:=by rw [hwz];exact hHeld
      clear hwz hHeld
      clear hr0 hr4 Wu hb2 QH
      have hbz:Below WL.heap.size WL wz:=hbr.trans (hHz.mono hbr.size)
      have hoz:wz.ownsRow WL.heap.size 50 2 (.slice A2 (lK r l k).length c2) (lK r l k).length ((lK r l k).flatMap am2):=bT hor (fun g hg=>hHz.block g (ar0 hor hg))
      have hsz:=hbz.size
      have hrf:lK r l (k+1)=lK r l k:=by rw [Ew r l k hlt,WU.out,if_neg (fun h=>h HLG.out),List.append_nil]
      have H4:=hide (And.intro hbz (And.intro hoz hrf))
      clear hoz hbz hsz hrf
      go_wp2
      go_roundw
      case rel=>exact ⟨k+1,A2,c2,by omega,by go_num,by rw [H4.out.2.2],H4.out.1,by rw [H4.out.2.2];exact H4.out.2.1⟩
      case measure=>simp [intOf];omega
  · have hke:k=l.length:=by omega
    have i9:¬ ((k:Int)<(l.length:Int)):=by omega
    subst hke
    obtain ⟨As,cs,hsr,hsb⟩:=hAt l.length (Nat.le_refl _)
    have ahe:wr.rangeAt bs (os+l.length*15) (aW (lQ r l l.length) As cs):=fun j v hj=>(hbr.cell (p:=⟨bs,os+l.length*15+j,none⟩) hbs).trans (hsr j v hj)
    have hz2:=hz.below hbr
    have hfs:lQ r l l.length=(M.final r (M.start r) (plain l)):=by unfold lQ;rw [List.take_length]
    have hfr:lK r l l.length=(M.jy r (M.start r) 1 (plain l)):=by unfold lK;rw [List.take_length]
    have hrl:=zY r l l.length
    rw [hfs] at ahe hsb
    rw [hfr] at hor hrl
    rw [hfr]
    obtain ⟨fs,aoK⟩:∃ q,(M.final r (M.start r) (plain l))=q:=⟨_,rfl⟩
    rw [aoK] at ahe hsb
    have hpost:∀ (w':World) (e:Ending),e= .returned (.tuple #[wF fs As cs,.slice A2 (M.jy r (M.start r) 1 (plain l)).length c2])→bD w' (fun b=>(S b∧b<w.heap.size)∨w.heap.size≤b) As cs fs.ay→Reads w' (fun b=>w.heap.size≤b) 2 A2 (M.jy r (M.start r) 1 (plain l)).length c2 ((M.jy r (M.start r) 1 (plain l)).flatMap am2)→Below w.heap.size w w'→∃ A1 c1 A2 c2,e= .returned (.tuple #[wF (M.final r (M.start r) (plain l)) A1 c1,.slice A2 (M.jy r (M.start r) 1 (plain l)).length c2])∧bD w' (fun b=>(S b∧b<w.heap.size)∨w.heap.size≤b) A1 c1 (M.final r (M.start r) (plain l)).ay∧Reads w' (fun b=>w.heap.size≤b) 2 A2 (M.jy r (M.start r) 1 (plain l)).length c2 ((M.jy r (M.start r) 1 (plain l)).flatMap am2)∧Below w.heap.size w w':=fun w' e h1 h2 h3 h4=>⟨As,cs,A2,c2,by rw [aoK];exact h1,by rw [aoK];exact h2,h3,h4⟩
    have ase:=hide hpost
    have i3:(l.length:Int)<(L.length:Int):=by have:=hLn.out;omega
    have i4:(0:Int)≤(l.length:Int):=by omega
    clear hfs hfr aoK hpost hp hsr hn
    go_wp2
    refine Q9.out _ _ ?_
    go_wp2_with (first | (refine aN 42 (.tmp 41) rfl ?_;refine jh (g:=bs) (o:=os+l.length*15) ahe Tryz.underlying42 rfl Zc rfl (.tmp 41) rfl rfl ?_) | (refine aO 42 (.tmp 4) (.tmp 42) rfl ?_;refine aF hz2 (aW fs As cs) rfl Zc (dL _ _ _) rfl (.tmp 4) (.tmp 42) rfl rfl rfl ?_))
    have hF:=hz2.whole (aW fs As cs) rfl
    have hzl:=hz.lt
    refine bodyPost_ret (ajN (p:=4) hF Tryz.underlying42 rfl Zc rfl _ rfl) rfl (ase.out _ _ rfl ?_ ?_ ?_)
    · exact bD.more (bD.sets (S:=fun b=>(S b∧b<w.heap.size)∨w.heap.size+2≤b) (by intro h;rcases h with h | h <;> omega) _ _ _ (hsb.below hbr)) (fun b _ h=>by rcases h with h | h;exact .inl h;exact .inr (by omega))
    · exact Reads.more (Reads.sets (S:=fun b=>WL.heap.size≤b) (by intro h;omega) _ _ _ (Reads.kG hor (fun g hg=>hg) (by omega))) (fun b _ h=>by have h:WL.heap.size≤b:=h;omega)
    · exact below_setCells _ (by omega) _ _ _ _ (hT.bw.trans (hbr.mono hT.bw.size))
theorem afH (S:Nat→Prop) (r:M.Rules) (l:List Sh) (A0:Option Addr) (c0:Nat) (w:World) (hp:wG w S A0 c0 l) (hr:M.aH r=0) (hl:M.je (plain l)=0):
 Calls Tryz.prog 21 #[jM r,.slice A0 l.length c0] w fun e w'=>∃ A1 c1 A2 c2,e= .returned (.tuple #[wF (M.final r (M.start r) (plain l)) A1 c1,.slice A2 (M.jy r (M.start r) 1 (plain l)).length c2])∧bD w' (fun b=>(S b∧b<w.heap.size)∨w.heap.size≤b) A1 c1 (M.final r (M.start r) (plain l)).ay∧Reads w' (fun b=>w.heap.size≤b) 2 A2 (M.jy r (M.start r) 1 (plain l)).length c2 ((M.jy r (M.start r) 1 (plain l)).flatMap am2)∧Below w.heap.size w w':=by
 have hp:=hp.more (S':=fun b=>S b∧b<w.heap.size) (fun b hb h=>⟨h,hb⟩)
 have HP:=hide hp
 have arf:=hide (auX S r l A0 c0 w HP (hide ⟨hr,hl⟩))
 have hst:=fun W h=>adf (fun b=>S b∧b<w.heap.size) r l A0 c0 W h hr hl
 have HST:=hide hst
 clear hst hr hl
 go_enter Tryz.func21,Tryz.ntmps21
 apply wp_seq_k
 intro K hK
 have HK:=hide hK
 clear hK
 have hB0:=((bU.nil w).new (by simp) ([.string r.game,.int .i64 r.target,.int .i64 r.aY]) 25).new (by simp) aj 42
 go_wp2
 refine HK.out _ _ ?_
 refine ZM (p:=fun W=>Code.wp _ _ _ _ W) (fun w0 hw0=>?_)
 have hB:bU w w0 [([.string r.game,.int .i64 r.target,.int .i64 r.aY],25),(aj,42)]:=by rw [hw0];exact hB0
 clear hw0 hB0
 apply wp_seq_k
 intro K hK
 have HK:=hide hK
 clear hK
 go_wp2_with (first | (refine aN 25 (.tmp 2) rfl ?_;refine aG (hB.bf rfl) Tryz.underlying25 rfl Zm rfl (.tmp 2) rfl rfl ?_) | (go_at_call 67;refine (HST.out _ (hp.below hB.bw)).mono ?_;rintro e w1 ⟨L,A1,c1,rfl,hl1,hr1,hb1⟩;have hB1:=hB.call (by simp) hb1))
 refine HK.out _ _ ?_
 have HA:=arf.out
 apply HA
 have hsz:=hB.size (by simp)
 simp only [List.length_cons,List.length_nil] at hsz
 exact ⟨rfl,rfl,rfl,L,A1,c1,rfl,⟨hl1,hB1.bf rfl,hr1.more (fun b _ h=>by rcases h with h | h;exact .inl h.1;exact .inr (by omega)),hB1.bw⟩,hB1.get 1 rfl⟩
noncomputable def ajg (n:Nat):Code:=dQ n ((Tryz.f22).body.getD .skip)
@[reducible] def asA (S:Nat→Prop) (r:M.Rules) (l:List Sh) (A0:Option Addr) (c0:Nat) (w:World) (F:Value→Value→Value→World→Prop) (n:Nat):Prop:=∀ (z0 z1 z2 z3 z4 z5 z6 z7 z8 z9 z10 z11 z12 z13 kD kK kF z17 kL jQ z20 z21 z22 z23 z24 z25 z26 z27 z28 z29 z30 z31 z32 z33 z34 z35 z36 z37 z38 z39 z40 z41 z42 z43 z44 z45 z46 z47 z48 z49 z50 z51 z52 z53 z54 z55 z56 z57 z58 z59 z60 z61 z62 z63 z64 z65 z66 z67 z68 z69 z70 z71 z72 z73:Value) (W:World),F z1 z2 z5 W→(ajg n).wp Tryz.prog (bodyPost Tryz.prog Tryz.f22 (fun e w'=>∃ A2 c2,e= .returned (.slice A2 (M.notes r (M.start r) 1 (plain l)).length c2)∧Reads w' (fun b=>w.heap.size≤b) 6 A2 (M.notes r (M.start r) 1 (plain l)).length c2 ((M.notes r (M.start r) 1 (plain l)).flatMap abJ)∧Below w.heap.size w w')) {tmps:= #[z0,z1,z2,z3,z4,z5,z6,z7,z8,z9,z10,z11,z12,z13,kD,kK,kF,z17,kL,jQ,z20,z21,z22,z23,z24,z25,z26,z27,z28,z29,z30,z31,z32,z33,z34,z35,z36,z37,z38,z39,z40,z41,z42,z43,z44,z45,z46,z47,z48,z49,z50,z51,z52,z53,z54,z55,z56,z57,z58,z59,z60,z61,z62,z63,z64,z65,z66,z67,z68,z69,z70,z71,z72,z73],defers:=[] } W
theorem ai0:(Tryz.prog.info? 53).map (fun i=>(i.zero,i.size,i.bytes))=some (some (.agg #[.int .i64 0,.int .i64 0,.int .i64 0,.int .i64 0,.int .i64 0,.bool false]),6,48):=by kernel_rfl
theorem adG:(Tryz.prog.info? 53).map (·.size)=some 6:=by kernel_rfl
@[reducible] def ao9 (S:Nat→Prop) (r:M.Rules) (l:List Sh) (A0:Option Addr) (c0:Nat) (w:World):Prop:=asA S r l A0 c0 w (fun z1 z2 z5 W=>z1= .slice A0 l.length c0∧z2=ptr w.heap.size∧∃ L A c,z5= .slice A (L:List StE).length c∧agY S r l w 1 L A c W) 2
theorem ael {wr X:World} {g7 g8 g9:Nat} {z7 z8 z9 v7 v8 v9:List Value} {t7 t8 t9:TypeId} (h7:Held X g7 z7 t7) (h8:Held X g8 z8 t8) (h9:Held X g9 z9 t9) (n78:g7≠g8) (n79:g7≠g9) (n89:g8≠g9) (l7:z7.length=v7.length) (l8:z8.length=v8.length) (l9:z9.length=v9.length)
 (hb:Below wr.heap.size wr (((X.setCells g7 0 v7).setCells g8 0 v8).setCells g9 0 v9)):Held (((X.setCells g7 0 v7).setCells g8 0 v8).setCells g9 0 v9) g7 v7 t7∧Held (((X.setCells g7 0 v7).setCells g8 0 v8).setCells g9 0 v9) g8 v8 t8∧Held (((X.setCells g7 0 v7).setCells g8 0 v8).setCells g9 0 v9) g9 v9 t9∧Below wr.heap.size wr (((X.setCells g7 0 v7).setCells g8 0 v8).setCells g9 0 v9):=by
 obtain ⟨a,b,c⟩:=alY h7 h8 h9 n78 n79 n89 l7 l8 l9
 exact ⟨a,b,c,hb⟩
theorem aun (S:Nat→Prop) (r:M.Rules) (l:List Sh) (A0:Option Addr) (c0:Nat) (w:World) (HP:Hid (wG w (fun b=>S b∧b<w.heap.size) A0 c0 l)) (wZ:Hid (M.aH r=0∧M.je (plain l)=0)):ao9 S r l A0 c0 w:=by
 dsimp only [ao9,asA]
 intro z0 _ _ z3 z4 _ _ _ z8 z9 z10 z11 z12 z13 kD kK kF z17 kL jQ z20 z21 z22 z23 z24 z25 z26 z27 z28 z29 z30 z31 z32 z33 z34 z35 z36 z37 z38 z39 z40 z41 z42 z43 z44 z45 z46 z47 z48 z49 z50 z51 z52 z53 z54 z55 z56 z57 z58 z59 z60 z61 z62 z63 z64 z65 z66 z67 z68 z69 z70 z71 z72 z73 W hf
 dsimp only [ajg,dQ,Tryz.f22,Option.getD]
 obtain ⟨rfl,rfl,L,A,c,rfl,hT⟩:=hf
 have hp:=HP.out
 obtain ⟨b1,b2,b3⟩:=hp.bd
 have hn:=((M.adi _).1 wZ.out.2).1
 rw [eF] at hn
 obtain ⟨i0,hi0,hz0,hz1,hz2⟩:=info_parts ai0
 obtain ⟨WL,rfl⟩:∃ q:World,q=W:=⟨_,rfl⟩
 obtain ⟨bs,os,rfl,hbs,hAt⟩:=hT.at_
 have hLL:=hT.lst.len
 apply wp_seq_k
 intro K hK
 have HK:=hide hK
 clear hK
 go_wp2
 refine HK.out _ _ ?_
 apply wp_seq_k
 intro K1 hK1
 have Q9:=hide hK1
 clear hK1
 apply wp_seq_k
 intro K2 hK2
 have PD:=hide hK2
 clear hK2
 go_wp2
 refine PD.out _ _ ?_
 have h00:Below WL.heap.size WL WL:=Below.refl _ _
 have hLn:=hide hLL
 clear hLL
 go_wp2
 go_loopw [6,7] (fun v i wr=>∃ (k:Nat) (A2:Option Addr) (c2:Nat),k≤l.length∧i= .int .i64 k∧v= .slice A2 k c2∧Below WL.heap.size WL wr∧wr.ownsRow WL.heap.size 53 6 (.slice A2 k c2) k ((ji r l k).flatMap abJ)) (fun _ i=>fun _=>l.length - (intOf i).toNat)
 case atStart=>exact ⟨0,none,0,Nat.zero_le _,rfl,rfl,h00,World.ownsRow_nil _ _ _ _⟩
 case round=>
  obtain ⟨k,A2,c2,hk,rfl,rfl,hbr,hor⟩:=hrel
  by_cases hlt:k<l.length
  · obtain ⟨b,o,rfl,hSb,hbl,hcs⟩:=Reads.at_ ((hp.below hT.bw).below hbr).1 (by omega)
    have h01:wr.rangeAt b (o+k*7) (au l[k]):=fun j v hj=>by
     have hj7:j<7:=(List.getElem?_eq_some_iff.1 hj).1
     rw [Nat.add_assoc]
     exact hcs _ _ ((jI l k hlt j hj7).trans hj)
    have hpo:=((hp.below hT.bw).below hbr).aA k hlt
    obtain ⟨As1,cs1,arG,ag6⟩:=hAt k hk
    obtain ⟨As2,cs2,ahe,_⟩:=hAt (k+1) (by omega)
    have hss:=vF r l k hlt
    have hk1:=aeM r l k
    have hok1:=aqE (r:=r) (l:=plain l) wZ.out.1 wZ.out.2 k
    have hok2:=aqE (r:=r) (l:=plain l) wZ.out.1 wZ.out.2 (k+1)
    rw [aeM] at hok1 hok2
    have hck:=((M.adi _).1 wZ.out.2).2 _ (List.getElem_mem (by rw [eF];exact hlt))
    rw [Iu l k hlt] at hck
    obtain ⟨s1,hs1⟩:∃ q,lQ r l k=q:=⟨_,rfl⟩
    obtain ⟨s2,hs2⟩:∃ q,lQ r l (k+1)=q:=⟨_,rfl⟩
    obtain ⟨e,he⟩:∃ q,l[k]=q:=⟨_,rfl⟩
    rw [hs1] at arG ag6 hss hok1
    rw [hs2] at ahe hss hok2
    rw [he] at h01 hpo hss hck
    obtain ⟨lg,hlk⟩:∃ q,M.legal r s1 e.x=q:=⟨_,rfl⟩
    have hLE:=fun W' (h:(fun w':World=>Below wr.heap.size wr w') W')=>acy (fun _=>True) r s1 e.x As1 e.a cs1 e.c W' ((bD.more (ag6.below hbr) (fun _ _ _=>trivial)).below h) (Reads.below (Reads.more hpo (fun _ _ _=>trivial)) h)
    rw [hlk] at hLE
    have QH:=hide hLE
    have WU:=hide hlk
    have VT:=hide hs1
    have HS2:=hide (And.intro hs2 hss)
    have HE:=hide he
    have UC:=hide (And.intro hpo (And.intro ag6 (And.intro hok1 (And.intro hok2 hck))))
    have hr3:∀ W',(fun w':World=>Below wr.heap.size wr w') W'→W'.rangeAt bs (os+k*15) (aW s1 As1 cs1):=fun W' h j v hj=>(h.cell (p:=⟨bs,os+k*15+j,none⟩) (Nat.lt_of_lt_of_le hbs hbr.size)).trans ((hbr.cell (p:=⟨bs,os+k*15+j,none⟩) hbs).trans (arG j v hj))
    have Wu:∀ W',(fun w':World=>Below wr.heap.size wr w') W'→W'.rangeAt bs (os+(k+1)*15) (aW s2 As2 cs2):=fun W' h j v hj=>(h.cell (p:=⟨bs,os+(k+1)*15+j,none⟩) (Nat.lt_of_lt_of_le hbs hbr.size)).trans ((hbr.cell (p:=⟨bs,os+(k+1)*15+j,none⟩) hbs).trans (ahe j v hj))
    have SA:∀ W',(fun w':World=>Below wr.heap.size wr w') W'→W'.rangeAt b (o+k*7) (au e):=fun W' h j v hj=>(h.cell (p:=⟨b,o+k*7+j,none⟩) hbl).trans (h01 j v hj)
    have i1:(0:Int)≤(k:Int):=by omega
    have i2:(k:Int)<(l.length:Int):=by omega
    have i3:(k:Int)<(L.length:Int):=by have:=hLn.out;omega
    have i4:(k:Int)+1<(L.length:Int):=by have:=hLn.out;omega
    have i5:(0:Int)≤(k:Int)+1:=by omega
    have i6:(((k:Int)+1).toNat)=k+1:=by omega
    have i7:IntKind.i64.wrap ((k:Int)+1)=(k:Int)+1:=IntWalk.i64_in _ (by omega)
    clear hLE hlk hcs hp hpo h01 arG ahe ag6 hss hok1 hok2 hck hs1 hs2 he hk1
    go_wp2
    rename_i K7 hK7
    have J7:∀ (p8 p9 p10:Nat) (z11 kK kF z17 kL jQ z20 z21 z22 z23 z24 z25 z26 z27 z28 z29 z30 z31 z32 z33 z34 z35 z36 z37 z38 z39 z40 z41 z42 z43 z44 z45 z46 z47 z48 z49 z50 z51 z52 z53 z54 z55 z56 z57 z58 z59 z60 z61 z62 z63 z64 z65 z66 z67 z68 z69 z70 z71 z72:Value) (wx:World),(Held wx p8 (aW s1 As1 cs1) 42∧Held wx p9 (aW s2 As2 cs2) 42∧Held wx p10 (au e) 69∧Below wr.heap.size wr wx)→K7 {tmps:= #[z0,.slice (some ⟨b,o,none⟩) l.length c0,ptr w.heap.size,z3,z4,.slice (some ⟨bs,os,none⟩) L.length c,.slice A2 k c2,.int .i64 (k:Int),ptr p8,ptr p9,ptr p10,z11,z12,z13,kD,kK,kF,z17,kL,jQ,z20,z21,z22,z23,z24,z25,z26,z27,z28,z29,z30,z31,z32,z33,z34,z35,z36,z37,z38,z39,z40,z41,z42,z43,z44,z45,z46,z47,z48,z49,z50,z51,z52,z53,z54,z55,z56,z57,z58,z59,z60,z61,z62,z63,z64,z65,z66,z67,z68,z69,z70,z71,z72,z73],defers:=[] } wx:=by
     intro p8 p9 p10 z11 kK kF z17 kL jQ z20 z21 z22 z23 z24 z25 z26 z27 z28 z29 z30 z31 z32 z33 z34 z35 z36 z37 z38 z39 z40 z41 z42 z43 z44 z45 z46 z47 z48 z49 z50 z51 z52 z53 z54 z55 z56 z57 z58 z59 z60 z61 z62 z63 z64 z65 z66 z67 z68 z69 z70 z71 z72 wx hrel
     refine hK7 _ _ ?_
     try dsimp only
     obtain ⟨h8,h9,h10,hbx⟩:=hrel
     apply wp_seq_k
     intro K8 hK8
     have J8:∀ (p8 p9 p10 p11:Nat) (kK kF z17 kL jQ z20 z21 z22 z23 z24 z25 z26 z27 z28 z29 z30 z31 z32 z33 z34 z35 z36 z37 z38 z39 z40 z41 z42 z43 z44 z45 z46 z47 z48 z49 z50 z51 z52 z53 z54 z55 z56 z57 z58 z59 z60 z61 z62 z63 z64 z65 z66 z67 z68 z69 z70 z71 z72:Value) (wx:World),(Held wx p8 (aW s1 As1 cs1) 42∧Held wx p9 (aW s2 As2 cs2) 42∧Held wx p10 (au e) 69∧Held wx p11 [.int .i64 ((k:Int)+1),.int .i64 e.x.aC,.int .i64 lg,.int .i64 0,.int .i64 0,.bool false] 53∧wr.heap.size≤p11∧p11≠p8∧p11≠p9∧p11≠p10∧Below wr.heap.size wr wx)→K8 {tmps:= #[z0,.slice (some ⟨b,o,none⟩) l.length c0,ptr w.heap.size,z3,z4,.slice (some ⟨bs,os,none⟩) L.length c,.slice A2 k c2,.int .i64 (k:Int),ptr p8,ptr p9,ptr p10,ptr p11,z12,z13,kD,kK,kF,z17,kL,jQ,z20,z21,z22,z23,z24,z25,z26,z27,z28,z29,z30,z31,z32,z33,z34,z35,z36,z37,z38,z39,z40,z41,z42,z43,z44,z45,z46,z47,z48,z49,z50,z51,z52,z53,z54,z55,z56,z57,z58,z59,z60,z61,z62,z63,z64,z65,z66,z67,z68,z69,z70,z71,z72,z73],defers:=[] } wx:=by
      intro p8 p9 p10 p11 kK kF z17 kL jQ z20 z21 z22 z23 z24 z25 z26 z27 z28 z29 z30 z31 z32 z33 z34 z35 z36 z37 z38 z39 z40 z41 z42 z43 z44 z45 z46 z47 z48 z49 z50 z51 z52 z53 z54 z55 z56 z57 z58 z59 z60 z61 z62 z63 z64 z65 z66 z67 z68 z69 z70 z71 z72 wx hrel
      refine hK8 _ _ ?_
      try dsimp only
      have HR:=hide hrel
      have HB:=hide (And.intro hbr hor)
      clear hrel
      apply wp_seq_k
      intro K12 as5
      have J12:∀ (p11:Nat) (z8 z9 z10 kK kF z17 kL jQ z20 z21 z22 z23 z24 z25 z26 z27 z28 z29 z30 z31 z32 z33 z34 z35 z36 z37 z38 z39 z40 z41 z42 z43 z44 z45 z46 z47 z48 z49 z50 z51 z52 z53 z54 z55 z56 z57 z58 z59 z60 z61 z62 z63 z64 z65 z66 z67 z68 z69 z70 z71 z72:Value) (wx:World),(Held wx p11 (abJ (M.note r s1 ((k:Int)+1) e.x)) 53∧Below wr.heap.size wr wx)→K12 {tmps:= #[z0,.slice (some ⟨b,o,none⟩) l.length c0,ptr w.heap.size,z3,z4,.slice (some ⟨bs,os,none⟩) L.length c,.slice A2 k c2,.int .i64 (k:Int),z8,z9,z10,ptr p11,z12,z13,kD,kK,kF,z17,kL,jQ,z20,z21,z22,z23,z24,z25,z26,z27,z28,z29,z30,z31,z32,z33,z34,z35,z36,z37,z38,z39,z40,z41,z42,z43,z44,z45,z46,z47,z48,z49,z50,z51,z52,z53,z54,z55,z56,z57,z58,z59,z60,z61,z62,z63,z64,z65,z66,z67,z68,z69,z70,z71,z72,z73],defers:=[] } wx:=by
       intro p11 z8 z9 z10 kK kF z17 kL jQ z20 z21 z22 z23 z24 z25 z26 z27 z28 z29 z30 z31 z32 z33 z34 z35 z36 z37 z38 z39 z40 z41 z42 z43 z44 z45 z46 z47 z48 z49 z50 z51 z52 z53 z54 z55 z56 z57 z58 z59 z60 z61 z62 z63 z64 z65 z66 z67 z68 z69 z70 z71 z72 wx hrel
       refine as5 _ _ ?_
       try dsimp only
       obtain ⟨hN,hbx⟩:=hrel
       have hsn:=CZ r l k hlt
       rw [VT.out,HE.out] at hsn
       obtain ⟨nt,hnt⟩:∃ q,M.note r s1 ((k:Int)+1) e.x=q:=⟨_,rfl⟩
       rw [hnt] at hN hsn
       have QM:Held wx p11 [.int .i64 nt.number,.int .i64 nt.aC,.int .i64 nt.rule,.int .i64 nt.iW,.int .i64 nt.points,.bool nt.turn] 53:=hN
       have hox:wx.ownsRow WL.heap.size 53 6 (.slice A2 k c2) k ((ji r l k).flatMap abJ):=bT hor (fun g hg=>hbx.block g (ar0 hor hg))
       have hbz:Below WL.heap.size WL wx:=hbr.trans (hbx.mono hbr.size)
       have hsz:=hbz.size
       have HSN:=hide hsn
       clear hsn hnt
       go_wp2_with (first | (refine aN 53 (.tmp 11) rfl ?_;refine aG QM Tryz.underlying53 rfl adG rfl (.tmp 11) rfl rfl ?_) | (at_builtin;refine wpList_append_lies _ rfl _ _ _ rfl WL.heap.size 53 i0 (.agg #[.int .i64 0,.int .i64 0,.int .i64 0,.int .i64 0,.int .i64 0,.bool false]) 6 48 Tryz.underlying44 hi0 hz0 hz1 hz2 rfl (by omega) _ _ _ rfl (hox.alloc _) ⟨wx.heap.size,0,none⟩ 1 1 [.int .i64 nt.number,.int .i64 nt.aC,.int .i64 nt.rule,.int .i64 nt.iW,.int .i64 nt.points,.bool nt.turn] rfl rfl (dK _ _ _ _ rfl) (aj3 nt) (by omega) (by simp only [maxLen];omega) (by omega) (by simp;omega) (wx.heap.size+1) (by simp) ?_))
       intro g1 cap w4 hown4 hgrow hat _
       have hge:∀ g,(Value.slice A2 k c2).ownBlock=some g→WL.heap.size≤g:=fun g hg=>(bg hox hg).1
       have hb4:Below WL.heap.size WL w4:=hbz.trans (anF hgrow hge hsz)
       have Fp:w4.ownsRow WL.heap.size 53 6 (.slice (some ⟨g1,0,none⟩) (k+1) cap) (k+1) ((ji r l (k+1)).flatMap abJ):=by
        rw [HSN.out,List.flatMap_append]
        have:[nt].flatMap abJ=[.int .i64 nt.number,.int .i64 nt.aC,.int .i64 nt.rule,.int .i64 nt.iW,.int .i64 nt.points,.bool nt.turn]:=rfl
        rw [this]
        exact hown4
       have H4:=hide (And.intro hb4 Fp)
       clear hb4 Fp hown4 hgrow hat hge hox hbz hsz hN QM hbx
       go_wp2
       go_roundw
       case rel=>exact ⟨k+1,some ⟨g1,0,none⟩,cap,by omega,by go_num,by first | rfl | go_num,H4.out.1,H4.out.2⟩
       case measure=>simp [intOf];omega
      clear as5
      have aqe:=hide J12
      clear J12
      obtain ⟨h8,h9,h10,hN,hge,n1,n2,n3,hbx⟩:=HR.out
      clear HR
      apply wp_seq_k
      intro Kd hKd
      have HKd:=hide hKd
      clear hKd
      have m2:=hN.cell (j:=2) rfl
      go_wp2
      refine HKd.out _ _ ?_
      by_cases Vb:lg=0
      rotate_left
      · have q1:(lg == 0)=false:=by simpa using Vb
        refine wp_cond_false (by show Value.bool (lg == 0)=_;rw [q1]) ?_
        have HLG:=hide Vb
        clear Vb m2
        go_wp2
        refine aqe.out p11 _ _ _ _ _ _ _ _ _ _ _ _ _ _ _ _ _ _ _ _ _ _ _ _ _ _ _ _ _ _ _ _ _ _ _ _ _ _ _ _ _ _ _ _ _ _ _ _ _ _ _ _ _ _ _ _ _ _ _ _ _ _ ⟨?_,hbx⟩
        rw [M.aoS (by rw [WU.out];exact HLG.out),WU.out]
        exact hN
      · subst Vb
        refine wp_cond_true rfl ?_
        clear m2
        obtain ⟨hpo,ag6,hok1,hok2,hck⟩:=UC.out
        have hfo:=fun W' (h:Below wr.heap.size wr W')=>Zh (fun _=>True) r s1 e.x As1 e.a cs1 e.c W' ((bD.more (ag6.below hbr) (fun _ _ _=>trivial)).below h) (Reads.below (Reads.more hpo (fun _ _ _=>trivial)) h) wZ.out.1 hok1.group
        obtain ⟨fo,hfv⟩:∃ q,M.iW r s1 e.x=q:=⟨_,rfl⟩
        rw [hfv] at hfo
        have WS:=hide hfo
        have HFV:=hide hfv
        have atj:=(M.uw hck).aC
        have n1:=Ne.symm n1
        have n2:=Ne.symm n2
        have n3:=Ne.symm n3
        clear hfo hfv hpo ag6
        apply wp_seq_k
        intro Kg hKg
        have HKg:=hide hKg
        clear hKg
        go_wp2_with (first | (refine aN 25 (.tmp 2) rfl ?_;refine aG (((hT.hr.below hbr).below hbx)) Tryz.underlying25 rfl Zm rfl (.tmp 2) rfl rfl ?_) | (refine aN 42 (.tmp 8) rfl ?_;refine aG (h8) Tryz.underlying42 rfl Zc rfl (.tmp 8) rfl rfl ?_) | (refine aN 69 (.tmp 10) rfl ?_;refine aG (h10) Tryz.underlying69 rfl Zf rfl (.tmp 10) rfl rfl ?_) | (go_at_call 52;refine (WS.out _ hbx).mono ?_;rintro e2 w2 ⟨rfl,hb2⟩;have QM:=hN.below hb2;have m3:=QM.cell (j:=3) rfl;have mf3:=QM.frozen 3))
        refine HKg.out _ _ ?_
        refine ZM (p:=fun W=>Code.wp _ _ _ _ W) (fun W9 hW9=>?_)
        have hN9:Held W9 p11 [.int .i64 ((k:Int)+1),.int .i64 e.x.aC,.int .i64 0,.int .i64 fo,.int .i64 0,.bool false] 53:=by rw [hW9];exact QM.set 3 _
        have h8:Held W9 p8 (aW s1 As1 cs1) 42:=by rw [hW9];exact (h8.below hb2).other (by omega) _ _
        have h9:Held W9 p9 (aW s2 As2 cs2) 42:=by rw [hW9];exact (h9.below hb2).other (by omega) _ _
        have h10:Held W9 p10 (au e) 69:=by rw [hW9];exact (h10.below hb2).other (by omega) _ _
        have U6:Below wr.heap.size wr W9:=by rw [hW9];exact (VY hbx hb2).setCell (p:=⟨p11,3,none⟩) hge _
        clear hW9 QM m3 mf3 hb2 hN hbx
        apply wp_seq_k
        intro Kh hKh
        rcases atj with hpl | hpl
        · have c10:W9.cell? ⟨p10,0,none⟩=some (.int .i64 0):=by rw [← hpl];exact h10.cell (j:=0) rfl
          have c8:W9.cell? ⟨p8,7,none⟩=some (.int .i64 s1.s0):=h8.cell (j:=7) rfl
          have c9:W9.cell? ⟨p9,7,none⟩=some (.int .i64 s2.s0):=h9.cell (j:=7) rfl
          have m4:=hN9.cell (j:=4) rfl
          have mf4:=hN9.frozen 4
          have hw:IntKind.i64.wrap (s2.s0 - s1.s0)=s2.s0 - s1.s0:=IntWalk.i64_in _ (by have:=hok1.s0;have:=hok2.s0;omega)
          refine wp_region_held_drew (S:=(fun w':World=>∀ p q,p≠p11→w'.cell? ⟨p,q,none⟩=W9.cell? ⟨p,q,none⟩)) (by kernel_rfl) ?rQ (fun hHeld=>?_)
          case rQ=>exact fun p q _=>rfl
          refine tk 0 ?_
          refine tk 1 ?_
          refine tk 2 ?_
          refine tk 3 ?_
          refine tk 4 ?_
          refine tk 5 ?_
          refine tk 6 ?_
          refine tk 7 ?_
          refine tk 8 ?_
          refine tk 9 ?_
          refine tk 10 ?_
          refine tk 11 ?_
          refine tr 12 fun K hK=>?_
          go_simp
          refine hK.out _ _ ?arW (fun hHeld=>?_)
          case arW=>(exact fun p q hp=>(Ze hp).trans (hHeld p q hp))
          clear hK K
          try simp only [Act.put,la,lz,ls]
          refine wpAnyH_done (by kernel_rfl) ?_ _
          refine hKh _ _ ?_
          refine ZM (p:=fun W=>Code.wp _ _ _ _ W) (fun W10 afr=>?_)
          have hNa:Held W10 p11 [.int .i64 ((k:Int)+1),.int .i64 e.x.aC,.int .i64 0,.int .i64 fo,.int .i64 (s2.s0 - s1.s0),.bool false] 53:=by rw [afr];exact hN9.drew.set 4 _
          have h8a:Held W10 p8 (aW s1 As1 cs1) 42:=by rw [afr];exact h8.drew.other (by omega) _ _
          have h9a:Held W10 p9 (aW s2 As2 cs2) 42:=by rw [afr];exact h9.drew.other (by omega) _ _
          have hba:Below wr.heap.size wr W10:=by rw [afr];exact U6.drew.setCell (p:=⟨p11,4,none⟩) hge _
          clear afr hHeld c10 c8 c9 m4 mf4 hw
          have d8:=h8a.cell (j:=0) rfl
          have d9:=h9a.cell (j:=0) rfl
          have m5:=hNa.cell (j:=5) rfl
          have mf5:=hNa.frozen 5
          go_wp2
          refine aqe.out p11 _ _ _ _ _ _ _ _ _ _ _ _ _ _ _ _ _ _ _ _ _ _ _ _ _ _ _ _ _ _ _ _ _ _ _ _ _ _ _ _ _ _ _ _ _ _ _ _ _ _ _ _ _ _ _ _ _ _ _ _ _ _ ⟨?_,hba.setCell (p:=⟨p11,5,none⟩) hge _⟩
          have hnt:=hNa.set 5 (.bool (s2.turn != s1.turn))
          have hne:abJ (M.note r s1 ((k:Int)+1) e.x)=[.int .i64 ((k:Int)+1),.int .i64 e.x.aC,.int .i64 0,.int .i64 fo,.int .i64 (s2.s0 - s1.s0),.bool (s2.turn != s1.turn)]:=by
           have hst:=HS2.out.2
           rw [aqL WU.out] at hst
           have ht:(s2.turn != s1.turn)=decide (s2.turn≠s1.turn):=by rw [Bool.eq_iff_iff];simp
           rw [M.KC WU.out,HFV.out, ← hst,hpl,ht]
           rfl
          rw [hne]
          exact hnt
        · have c10:W9.cell? ⟨p10,0,none⟩=some (.int .i64 1):=by rw [← hpl];exact h10.cell (j:=0) rfl
          have c8:W9.cell? ⟨p8,8,none⟩=some (.int .i64 s1.s1):=h8.cell (j:=8) rfl
          have c9:W9.cell? ⟨p9,8,none⟩=some (.int .i64 s2.s1):=h9.cell (j:=8) rfl
          have m4:=hN9.cell (j:=4) rfl
          have mf4:=hN9.frozen 4
          have hw:IntKind.i64.wrap (s2.s1 - s1.s1)=s2.s1 - s1.s1:=IntWalk.i64_in _ (by have:=hok1.s1;have:=hok2.s1;omega)
          refine wp_region_held_drew (S:=(fun w':World=>∀ p q,p≠p11→w'.cell? ⟨p,q,none⟩=W9.cell? ⟨p,q,none⟩)) (by kernel_rfl) ?uQ (fun hHeld=>?_)
          case uQ=>exact fun p q _=>rfl
          refine tk 0 ?_
          refine tk 1 ?_
          refine tk 2 ?_
          refine tk 3 ?_
          refine tk 4 ?_
          refine tk 5 ?_
          refine tk 6 ?_
          refine tk 7 ?_
          refine tk 8 ?_
          refine tk 9 ?_
          refine tk 10 ?_
          refine tk 11 ?_
          refine tr 12 fun K hK=>?_
          go_simp
          refine hK.out _ _ ?ar5 (fun hHeld=>?_)
          case ar5=>(exact fun p q hp=>(Ze hp).trans (hHeld p q hp))
          clear hK K
          try simp only [Act.put,la,lz,ls]
          refine wpAnyH_done (by kernel_rfl) ?_ _
          refine hKh _ _ ?_
          refine ZM (p:=fun W=>Code.wp _ _ _ _ W) (fun W10 afr=>?_)
          have hNa:Held W10 p11 [.int .i64 ((k:Int)+1),.int .i64 e.x.aC,.int .i64 0,.int .i64 fo,.int .i64 (s2.s1 - s1.s1),.bool false] 53:=by rw [afr];exact hN9.drew.set 4 _
          have h8a:Held W10 p8 (aW s1 As1 cs1) 42:=by rw [afr];exact h8.drew.other (by omega) _ _
          have h9a:Held W10 p9 (aW s2 As2 cs2) 42:=by rw [afr];exact h9.drew.other (by omega) _ _
          have hba:Below wr.heap.size wr W10:=by rw [afr];exact U6.drew.setCell (p:=⟨p11,4,none⟩) hge _
          clear afr hHeld c10 c8 c9 m4 mf4 hw
          have d8:=h8a.cell (j:=0) rfl
          have d9:=h9a.cell (j:=0) rfl
          have m5:=hNa.cell (j:=5) rfl
          have mf5:=hNa.frozen 5
          go_wp2
          refine aqe.out p11 _ _ _ _ _ _ _ _ _ _ _ _ _ _ _ _ _ _ _ _ _ _ _ _ _ _ _ _ _ _ _ _ _ _ _ _ _ _ _ _ _ _ _ _ _ _ _ _ _ _ _ _ _ _ _ _ _ _ _ _ _ _ ⟨?_,hba.setCell (p:=⟨p11,5,none⟩) hge _⟩
          have hnt:=hNa.set 5 (.bool (s2.turn != s1.turn))
          have hne:abJ (M.note r s1 ((k:Int)+1) e.x)=[.int .i64 ((k:Int)+1),.int .i64 e.x.aC,.int .i64 0,.int .i64 fo,.int .i64 (s2.s1 - s1.s1),.bool (s2.turn != s1.turn)]:=by
           have hst:=HS2.out.2
           rw [aqL WU.out] at hst
           have ht:(s2.turn != s1.turn)=decide (s2.turn≠s1.turn):=by rw [Bool.eq_iff_iff];simp
           rw [M.KC WU.out,HFV.out, ← hst,hpl,ht]
           rfl
          rw [hne]
          exact hnt
     clear hK8
     have HJ8:=hide J8
     clear J8
     have hr2:∀ W',(fun w':World=>Below wx.heap.size wx w') W'→W'.rangeAt w.heap.size 0 ([.string r.game,.int .i64 r.target,.int .i64 r.aY]):=fun W' h=>(((hT.hr.below hbr).below hbx).below h).range
     have avw:∀ W',(fun w':World=>Below wx.heap.size wx w') W'→W'.rangeAt p8 0 (aW s1 As1 cs1):=fun W' h=>(h8.below h).range
     have Sz:∀ W',(fun w':World=>Below wx.heap.size wx w') W'→W'.rangeAt p10 0 (au e):=fun W' h=>(h10.below h).range
     have Si:∀ W',Below wx.heap.size wx W'→W'.cell? ⟨p10,0,none⟩=some (.int .i64 e.x.aC):=fun W' h=>(h10.below h).cell (j:=0) rfl
     clear hr3 Wu SA
     refine wp_region_held_drew (S:=(fun w':World=>Below wx.heap.size wx w')) (by kernel_rfl) ?zV (fun hHeld=>?_)
     case zV=>exact (Below.refl _ _).drew
     refine tk 0 ?_
     refine tk 1 ?_
     refine tk 2 ?_
     refine tk 3 ?_
     refine wpAnyH_take (i:=4) (oi:=_) (v:=_) (ga rfl) (by kernel_rfl) (by kernel_rfl) (by kernel_rfl) (fun _ _ _ h=>h) (yieldsIf_load_mid (by rfl) _ _ (by rfl) _ _ (by rfl) _ _ hr2 Tryz.underlying25 rfl (by kernel_rfl)) (by assumption) ?_
     try simp only [Act.put,la,lz,ls]
     refine wpAnyH_take (i:=5) (oi:=_) (v:=_) (ga rfl) (by kernel_rfl) (by kernel_rfl) (by kernel_rfl) (fun _ _ _ h=>h) (yieldsIf_load_mid (by rfl) _ _ (by rfl) _ _ (by rfl) _ _ avw Tryz.underlying42 rfl (by kernel_rfl)) (by assumption) ?_
     try simp only [Act.put,la,lz,ls]
     refine wpAnyH_take (i:=6) (oi:=_) (v:=_) (ga rfl) (by kernel_rfl) (by kernel_rfl) (by kernel_rfl) (fun _ _ _ h=>h) (yieldsIf_load_mid (by rfl) _ _ (by rfl) _ _ (by rfl) _ _ Sz Tryz.underlying69 rfl (by kernel_rfl)) (by assumption) ?_
     try simp only [Act.put,la,lz,ls]
     refine wpAnyH_ready (rs:=[7,9]) (by kernel_rfl) (by simp) ?_
     refine AllReadyH.cons (o:=_) (ga rfl) (fun K hK=>?_) (AllReadyH.cons (o:=_) (ga rfl) (fun K hK=>?_) AllReadyH.nil)
     · go_simp
       (go_at_call 46;refine (QH.out _ (hbx.trans (hHeld.mono hbx.size))).mono ?_;rintro e2 w2 ⟨rfl,hb2⟩)
       refine hK.out _ _ ?anH (fun hHeld=>?_)
       case anH=>(exact hHeld.trans (hb2.mono hHeld.size))
       clear hK K
       try simp only [Act.put,la,lz,ls]
       refine tk 8 ?_
       refine tr 9 fun K hK=>?_
       go_simp
       refine hK.out _ _ ?anX (fun hHeld=>?_)
       case anX=>(exact Below.alloc hHeld hHeld.size _)
       clear hK K
       try simp only [Act.put,la,lz,ls]
       have hge:wx.heap.size≤w2.heap.size:=by first | exact Nat.le_refl _ | (have:=hb2.size;simpa using this)
       refine ZM (p:=fun W=>wpAnyH _ _ _ _ _ _ _ _ W) (fun X hX=>?_)
       have hHX:Below wx.heap.size wx X:=by rw [hX];exact hHeld
       have g11:Held X (w2.heap.size) [.int .i64 0,.int .i64 0,.int .i64 0,.int .i64 0,.int .i64 0,.bool false] 53:=by rw [hX];exact Held.newAt _ [.int .i64 0,.int .i64 0,.int .i64 0,.int .i64 0,.int .i64 0,.bool false] 53 (by first | rfl | simp)
       clear hX hHeld
       have l8:=h8.lt
       have l9:=h9.lt
       have l10:=h10.lt
       have hbX:Below wr.heap.size wr (X.setCells (w2.heap.size) 0 [.int .i64 ((k:Int)+1),.int .i64 e.x.aC,.int .i64 lg,.int .i64 0,.int .i64 0,.bool false]):=below_setCells _ (by have:=hbx.size;omega) _ _ _ _ (VY hbx hHX)
       refine wpAnyH_ready (rs:=[10]) (by kernel_rfl) (by simp) ?_
       refine ak1 (o:=_) (ga rfl) (by kernel_rfl) g11 [.int .i64 ((k:Int)+1),.int .i64 e.x.aC,.int .i64 lg,.int .i64 0,.int .i64 0,.bool false] rfl adG (by simp [Value.oneCell']) (.tmp 11) (.tmp 42) rfl rfl rfl (below_setCells _ hge _ _ _ _ hHX) ?_
       try simp only [Act.put,la,lz,ls]
       refine wpAnyH_done (by kernel_rfl) ?_ _
       exact HJ8.out p8 p9 p10 (w2.heap.size) _ _ _ _ _ _ _ _ _ _ _ _ _ _ _ _ _ _ _ _ _ _ _ _ _ _ _ _ _ _ _ _ _ _ _ _ _ _ _ _ _ _ _ _ _ _ _ _ _ _ _ _ _ _ _ _ _ _ _ ⟨Held.others (by omega) _ _ _ (h8.below hHX),Held.others (by omega) _ _ _ (h9.below hHX),Held.others (by omega) _ _ _ (h10.below hHX),g11.whole _ rfl,by have:=hbx.size;omega,by omega,by omega,by omega,hbX⟩
     · go_simp
       refine hK.out _ _ ?an5 (fun hHeld=>?_)
       case an5=>(exact Below.alloc hHeld hHeld.size _)
       clear hK K
       try simp only [Act.put,la,lz,ls]
       refine tr 7 fun K hK=>?_
       go_simp
       (go_at_call 46;refine (QH.out _ (hbx.trans (hHeld.mono hbx.size))).mono ?_;rintro e2 w2 ⟨rfl,hb2⟩)
       refine hK.out _ _ ?anP (fun hHeld=>?_)
       case anP=>(exact hHeld.trans (hb2.mono hHeld.size))
       clear hK K
       try simp only [Act.put,la,lz,ls]
       refine tk 8 ?_
       have hge:wx.heap.size≤wx.heap.size:=by first | exact Nat.le_refl _ | (have:=hb2.size;simpa using this)
       refine ZM (p:=fun W=>wpAnyH _ _ _ _ _ _ _ _ W) (fun X hX=>?_)
       have hHX:Below wx.heap.size wx X:=by rw [hX];exact hHeld
       have g11:Held X (wx.heap.size) [.int .i64 0,.int .i64 0,.int .i64 0,.int .i64 0,.int .i64 0,.bool false] 53:=by rw [hX];exact (Held.newAt _ [.int .i64 0,.int .i64 0,.int .i64 0,.int .i64 0,.int .i64 0,.bool false] 53 (by first | rfl | simp)).drew.below hb2
       clear hX hHeld
       have l8:=h8.lt
       have l9:=h9.lt
       have l10:=h10.lt
       have hbX:Below wr.heap.size wr (X.setCells (wx.heap.size) 0 [.int .i64 ((k:Int)+1),.int .i64 e.x.aC,.int .i64 lg,.int .i64 0,.int .i64 0,.bool false]):=below_setCells _ (by have:=hbx.size;omega) _ _ _ _ (VY hbx hHX)
       refine wpAnyH_ready (rs:=[10]) (by kernel_rfl) (by simp) ?_
       refine ak1 (o:=_) (ga rfl) (by kernel_rfl) g11 [.int .i64 ((k:Int)+1),.int .i64 e.x.aC,.int .i64 lg,.int .i64 0,.int .i64 0,.bool false] rfl adG (by simp [Value.oneCell']) (.tmp 11) (.tmp 42) rfl rfl rfl (below_setCells _ hge _ _ _ _ hHX) ?_
       try simp only [Act.put,la,lz,ls]
       refine wpAnyH_done (by kernel_rfl) ?_ _
       exact HJ8.out p8 p9 p10 (wx.heap.size) _ _ _ _ _ _ _ _ _ _ _ _ _ _ _ _ _ _ _ _ _ _ _ _ _ _ _ _ _ _ _ _ _ _ _ _ _ _ _ _ _ _ _ _ _ _ _ _ _ _ _ _ _ _ _ _ _ _ _ ⟨Held.others (by omega) _ _ _ (h8.below hHX),Held.others (by omega) _ _ _ (h9.below hHX),Held.others (by omega) _ _ _ (h10.below hHX),g11.whole _ rfl,by have:=hbx.size;omega,by omega,by omega,by omega,hbX⟩
    clear hK7
    have HJ7:=hide J7
    clear J7
    refine wp_region_held_drew (S:=(fun w':World=>Below wr.heap.size wr w')) (by kernel_rfl) ?Nk (fun hHeld=>?_)
    case Nk=>exact (Below.refl _ _).drew
    refine tk 0 ?_
    refine tk 1 ?_
    refine tk 2 ?_
    refine wpAnyH_take (i:=3) (oi:=_) (v:=_) (ga rfl) (by kernel_rfl) (by kernel_rfl) (by kernel_rfl) (fun _ _ _ h=>h) (yieldsIf_load_mid (by rfl) _ _ (by rfl) _ _ (by rfl) _ _ hr3 Tryz.underlying42 rfl (by kernel_rfl)) (by assumption) ?_
    try simp only [Act.put,la,lz,ls]
    refine tk 4 ?_
    refine tk 5 ?_
    refine tk 6 ?_
    refine tk 7 ?_
    refine wpAnyH_take (i:=8) (oi:=_) (v:=_) (ga rfl) (by kernel_rfl) (by kernel_rfl) (by kernel_rfl) (fun _ _ _ h=>h) (yieldsIf_load_mid (by rfl) _ _ (by rfl) _ _ (by rfl) _ _ Wu Tryz.underlying42 rfl (by kernel_rfl)) (by assumption) ?_
    try simp only [Act.put,la,lz,ls]
    refine tk 9 ?_
    refine tk 10 ?_
    refine tk 11 ?_
    refine wpAnyH_take (i:=12) (oi:=_) (v:=_) (ga rfl) (by kernel_rfl) (by kernel_rfl) (by kernel_rfl) (fun _ _ _ h=>h) (yieldsIf_load_mid (by rfl) _ _ (by rfl) _ _ (by rfl) _ _ SA Tryz.underlying69 rfl (by kernel_rfl)) (by assumption) ?_
    try simp only [Act.put,la,lz,ls]
    refine wpAnyH_ready (rs:=[13,14,15]) (by kernel_rfl) (by simp) ?_
    refine AllReadyH.cons (o:=_) (ga rfl) (fun K hK=>?_) (AllReadyH.cons (o:=_) (ga rfl) (fun K hK=>?_) (AllReadyH.cons (o:=_) (ga rfl) (fun K hK=>?_) AllReadyH.nil))
    · go_simp
      refine hK.out _ _ ?akD (fun hHeld=>?_)
      case akD=>(exact Below.alloc hHeld hHeld.size _)
      clear hK K
      try simp only [Act.put,la,lz,ls]
      refine wpAnyH_ready (rs:=[14,15]) (by kernel_rfl) (by simp) ?_
      refine AllReadyH.cons (o:=_) (ga rfl) (fun K hK=>?_) (AllReadyH.cons (o:=_) (ga rfl) (fun K hK=>?_) AllReadyH.nil)
      · go_simp
        refine hK.out _ _ ?akL (fun hHeld=>?_)
        case akL=>(exact Below.alloc hHeld hHeld.size _)
        clear hK K
        try simp only [Act.put,la,lz,ls]
        refine tr 15 fun K hK=>?_
        go_simp
        refine hK.out _ _ ?ala (fun hHeld=>?_)
        case ala=>(exact Below.alloc hHeld hHeld.size _)
        clear hK K
        try simp only [Act.put,la,lz,ls]
        refine ZM (p:=fun W=>wpAnyH _ _ _ _ _ _ _ _ W) (fun X hX=>?_)
        have hHX:Below wr.heap.size wr X:=by rw [hX];exact hHeld
        have g13:Held X (wr.heap.size) aj 42:=by rw [hX];exact (((Held.newAt _ aj 42 (by first | rfl | simp)).alloc _).alloc _)
        have g14:Held X (wr.heap.size+1) aj 42:=by rw [hX];exact ((Held.newAt _ aj 42 (by first | rfl | simp)).alloc _)
        have g15:Held X (wr.heap.size+2) JB 69:=by rw [hX];exact (Held.newAt _ JB 69 (by first | rfl | simp))
        clear hX hHeld
        refine wpAnyH_ready (rs:=[16]) (by kernel_rfl) (by simp) ?_
        refine ak1 (o:=_) (ga rfl) (by kernel_rfl) g13 (aW s1 As1 cs1) rfl Zc (dL _ _ _) (.tmp 8) (.tmp 24) rfl rfl rfl (below_setCells _ (by omega) _ _ _ _ hHX) ?_
        try simp only [Act.put,la,lz,ls]
        refine wpAnyH_ready (rs:=[17]) (by kernel_rfl) (by simp) ?_
        refine ak1 (o:=_) (ga rfl) (by kernel_rfl) (Held.others (by omega) _ _ _ g14) (aW s2 As2 cs2) rfl Zc (dL _ _ _) (.tmp 9) (.tmp 29) rfl rfl rfl (below_setCells _ (by omega) _ _ _ _ (below_setCells _ (by omega) _ _ _ _ hHX)) ?_
        try simp only [Act.put,la,lz,ls]
        refine wpAnyH_ready (rs:=[18]) (by kernel_rfl) (by simp) ?_
        refine ak1 (o:=_) (ga rfl) (by kernel_rfl) (Held.others (by omega) _ _ _ (Held.others (by omega) _ _ _ g15)) (au e) rfl Zf (uq _ _ _) (.tmp 10) (.tmp 33) rfl rfl rfl (below_setCells _ (by omega) _ _ _ _ (below_setCells _ (by omega) _ _ _ _ (below_setCells _ (by omega) _ _ _ _ hHX))) ?_
        try simp only [Act.put,la,lz,ls]
        refine wpAnyH_done (by kernel_rfl) ?_ _
        exact HJ7.out _ _ _ _ _ _ _ _ _ _ _ _ _ _ _ _ _ _ _ _ _ _ _ _ _ _ _ _ _ _ _ _ _ _ _ _ _ _ _ _ _ _ _ _ _ _ _ _ _ _ _ _ _ _ _ _ _ _ _ _ _ _ _ (ael g13 g14 g15 (by omega) (by omega) (by omega) rfl rfl rfl (below_setCells _ (by omega) _ _ _ _ (below_setCells _ (by omega) _ _ _ _ (below_setCells _ (by omega) _ _ _ _ hHX))))
      · go_simp
        refine hK.out _ _ ?ali (fun hHeld=>?_)
        case ali=>(exact Below.alloc hHeld hHeld.size _)
        clear hK K
        try simp only [Act.put,la,lz,ls]
        refine tr 14 fun K hK=>?_
        go_simp
        refine hK.out _ _ ?akT (fun hHeld=>?_)
        case akT=>(exact Below.alloc hHeld hHeld.size _)
        clear hK K
        try simp only [Act.put,la,lz,ls]
        refine ZM (p:=fun W=>wpAnyH _ _ _ _ _ _ _ _ W) (fun X hX=>?_)
        have hHX:Below wr.heap.size wr X:=by rw [hX];exact hHeld
        have g13:Held X (wr.heap.size) aj 42:=by rw [hX];exact (((Held.newAt _ aj 42 (by first | rfl | simp)).alloc _).alloc _)
        have g14:Held X (wr.heap.size+2) aj 42:=by rw [hX];exact (Held.newAt _ aj 42 (by first | rfl | simp))
        have g15:Held X (wr.heap.size+1) JB 69:=by rw [hX];exact ((Held.newAt _ JB 69 (by first | rfl | simp)).alloc _)
        clear hX hHeld
        refine wpAnyH_ready (rs:=[16]) (by kernel_rfl) (by simp) ?_
        refine ak1 (o:=_) (ga rfl) (by kernel_rfl) g13 (aW s1 As1 cs1) rfl Zc (dL _ _ _) (.tmp 8) (.tmp 24) rfl rfl rfl (below_setCells _ (by omega) _ _ _ _ hHX) ?_
        try simp only [Act.put,la,lz,ls]
        refine wpAnyH_ready (rs:=[17]) (by kernel_rfl) (by simp) ?_
        refine ak1 (o:=_) (ga rfl) (by kernel_rfl) (Held.others (by omega) _ _ _ g14) (aW s2 As2 cs2) rfl Zc (dL _ _ _) (.tmp 9) (.tmp 29) rfl rfl rfl (below_setCells _ (by omega) _ _ _ _ (below_setCells _ (by omega) _ _ _ _ hHX)) ?_
        try simp only [Act.put,la,lz,ls]
        refine wpAnyH_ready (rs:=[18]) (by kernel_rfl) (by simp) ?_
        refine ak1 (o:=_) (ga rfl) (by kernel_rfl) (Held.others (by omega) _ _ _ (Held.others (by omega) _ _ _ g15)) (au e) rfl Zf (uq _ _ _) (.tmp 10) (.tmp 33) rfl rfl rfl (below_setCells _ (by omega) _ _ _ _ (below_setCells _ (by omega) _ _ _ _ (below_setCells _ (by omega) _ _ _ _ hHX))) ?_
        try simp only [Act.put,la,lz,ls]
        refine wpAnyH_done (by kernel_rfl) ?_ _
        exact HJ7.out _ _ _ _ _ _ _ _ _ _ _ _ _ _ _ _ _ _ _ _ _ _ _ _ _ _ _ _ _ _ _ _ _ _ _ _ _ _ _ _ _ _ _ _ _ _ _ _ _ _ _ _ _ _ _ _ _ _ _ _ _ _ _ (ael g13 g14 g15 (by omega) (by omega) (by omega) rfl rfl rfl (below_setCells _ (by omega) _ _ _ _ (below_setCells _ (by omega) _ _ _ _ (below_setCells _ (by omega) _ _ _ _ hHX))))
    · go_simp
      refine hK.out _ _ ?ak2 (fun hHeld=>?_)
      case ak2=>(exact Below.alloc hHeld hHeld.size _)
      clear hK K
      try simp only [Act.put,la,lz,ls]
      refine wpAnyH_ready (rs:=[13,15]) (by kernel_rfl) (by simp) ?_
      refine AllReadyH.cons (o:=_) (ga rfl) (fun K hK=>?_) (AllReadyH.cons (o:=_) (ga rfl) (fun K hK=>?_) AllReadyH.nil)
      · go_simp
        refine hK.out _ _ ?ahL (fun hHeld=>?_)
        case ahL=>(exact Below.alloc hHeld hHeld.size _)
        clear hK K
        try simp only [Act.put,la,lz,ls]
        refine tr 15 fun K hK=>?_
        go_simp
        refine hK.out _ _ ?aiC (fun hHeld=>?_)
        case aiC=>(exact Below.alloc hHeld hHeld.size _)
        clear hK K
        try simp only [Act.put,la,lz,ls]
        refine ZM (p:=fun W=>wpAnyH _ _ _ _ _ _ _ _ W) (fun X hX=>?_)
        have hHX:Below wr.heap.size wr X:=by rw [hX];exact hHeld
        have g13:Held X (wr.heap.size+1) aj 42:=by rw [hX];exact ((Held.newAt _ aj 42 (by first | rfl | simp)).alloc _)
        have g14:Held X (wr.heap.size) aj 42:=by rw [hX];exact (((Held.newAt _ aj 42 (by first | rfl | simp)).alloc _).alloc _)
        have g15:Held X (wr.heap.size+2) JB 69:=by rw [hX];exact (Held.newAt _ JB 69 (by first | rfl | simp))
        clear hX hHeld
        refine wpAnyH_ready (rs:=[16]) (by kernel_rfl) (by simp) ?_
        refine ak1 (o:=_) (ga rfl) (by kernel_rfl) g13 (aW s1 As1 cs1) rfl Zc (dL _ _ _) (.tmp 8) (.tmp 24) rfl rfl rfl (below_setCells _ (by omega) _ _ _ _ hHX) ?_
        try simp only [Act.put,la,lz,ls]
        refine wpAnyH_ready (rs:=[17]) (by kernel_rfl) (by simp) ?_
        refine ak1 (o:=_) (ga rfl) (by kernel_rfl) (Held.others (by omega) _ _ _ g14) (aW s2 As2 cs2) rfl Zc (dL _ _ _) (.tmp 9) (.tmp 29) rfl rfl rfl (below_setCells _ (by omega) _ _ _ _ (below_setCells _ (by omega) _ _ _ _ hHX)) ?_
        try simp only [Act.put,la,lz,ls]
        refine wpAnyH_ready (rs:=[18]) (by kernel_rfl) (by simp) ?_
        refine ak1 (o:=_) (ga rfl) (by kernel_rfl) (Held.others (by omega) _ _ _ (Held.others (by omega) _ _ _ g15)) (au e) rfl Zf (uq _ _ _) (.tmp 10) (.tmp 33) rfl rfl rfl (below_setCells _ (by omega) _ _ _ _ (below_setCells _ (by omega) _ _ _ _ (below_setCells _ (by omega) _ _ _ _ hHX))) ?_
        try simp only [Act.put,la,lz,ls]
        refine wpAnyH_done (by kernel_rfl) ?_ _
        exact HJ7.out _ _ _ _ _ _ _ _ _ _ _ _ _ _ _ _ _ _ _ _ _ _ _ _ _ _ _ _ _ _ _ _ _ _ _ _ _ _ _ _ _ _ _ _ _ _ _ _ _ _ _ _ _ _ _ _ _ _ _ _ _ _ _ (ael g13 g14 g15 (by omega) (by omega) (by omega) rfl rfl rfl (below_setCells _ (by omega) _ _ _ _ (below_setCells _ (by omega) _ _ _ _ (below_setCells _ (by omega) _ _ _ _ hHX))))
      · go_simp
        refine hK.out _ _ ?aiK (fun hHeld=>?_)
        case aiK=>(exact Below.alloc hHeld hHeld.size _)
        clear hK K
        try simp only [Act.put,la,lz,ls]
        refine tr 13 fun K hK=>?_
        go_simp
        refine hK.out _ _ ?ahT (fun hHeld=>?_)
        case ahT=>(exact Below.alloc hHeld hHeld.size _)
        clear hK K
        try simp only [Act.put,la,lz,ls]
        refine ZM (p:=fun W=>wpAnyH _ _ _ _ _ _ _ _ W) (fun X hX=>?_)
        have hHX:Below wr.heap.size wr X:=by rw [hX];exact hHeld
        have g13:Held X (wr.heap.size+2) aj 42:=by rw [hX];exact (Held.newAt _ aj 42 (by first | rfl | simp))
        have g14:Held X (wr.heap.size) aj 42:=by rw [hX];exact (((Held.newAt _ aj 42 (by first | rfl | simp)).alloc _).alloc _)
        have g15:Held X (wr.heap.size+1) JB 69:=by rw [hX];exact ((Held.newAt _ JB 69 (by first | rfl | simp)).alloc _)
        clear hX hHeld
        refine wpAnyH_ready (rs:=[16]) (by kernel_rfl) (by simp) ?_
        refine ak1 (o:=_) (ga rfl) (by kernel_rfl) g13 (aW s1 As1 cs1) rfl Zc (dL _ _ _) (.tmp 8) (.tmp 24) rfl rfl rfl (below_setCells _ (by omega) _ _ _ _ hHX) ?_
        try simp only [Act.put,la,lz,ls]
        refine wpAnyH_ready (rs:=[17]) (by kernel_rfl) (by simp) ?_
        refine ak1 (o:=_) (ga rfl) (by kernel_rfl) (Held.others (by omega) _ _ _ g14) (aW s2 As2 cs2) rfl Zc (dL _ _ _) (.tmp 9) (.tmp 29) rfl rfl rfl (below_setCells _ (by omega) _ _ _ _ (below_setCells _ (by omega) _ _ _ _ hHX)) ?_
        try simp only [Act.put,la,lz,ls]
        refine wpAnyH_ready (rs:=[18]) (by kernel_rfl) (by simp) ?_
        refine ak1 (o:=_) (ga rfl) (by kernel_rfl) (Held.others (by omega) _ _ _ (Held.others (by omega) _ _ _ g15)) (au e) rfl Zf (uq _ _ _) (.tmp 10) (.tmp 33) rfl rfl rfl (below_setCells _ (by omega) _ _ _ _ (below_setCells _ (by omega) _ _ _ _ (below_setCells _ (by omega) _ _ _ _ hHX))) ?_
        try simp only [Act.put,la,lz,ls]
        refine wpAnyH_done (by kernel_rfl) ?_ _
        exact HJ7.out _ _ _ _ _ _ _ _ _ _ _ _ _ _ _ _ _ _ _ _ _ _ _ _ _ _ _ _ _ _ _ _ _ _ _ _ _ _ _ _ _ _ _ _ _ _ _ _ _ _ _ _ _ _ _ _ _ _ _ _ _ _ _ (ael g13 g14 g15 (by omega) (by omega) (by omega) rfl rfl rfl (below_setCells _ (by omega) _ _ _ _ (below_setCells _ (by omega) _ _ _ _ (below_setCells _ (by omega) _ _ _ _ hHX))))
    · go_simp
      refine hK.out _ _ ?aiS (fun hHeld=>?_)
      case aiS=>(exact Below.alloc hHeld hHeld.size _)
      clear hK K
      try simp only [Act.put,la,lz,ls]
      refine wpAnyH_ready (rs:=[13,14]) (by kernel_rfl) (by simp) ?_
      refine AllReadyH.cons (o:=_) (ga rfl) (fun K hK=>?_) (AllReadyH.cons (o:=_) (ga rfl) (fun K hK=>?_) AllReadyH.nil)
      · go_simp
        refine hK.out _ _ ?ah1 (fun hHeld=>?_)
        case ah1=>(exact Below.alloc hHeld hHeld.size _)
        clear hK K
        try simp only [Act.put,la,lz,ls]
        refine tr 14 fun K hK=>?_
        go_simp
        refine hK.out _ _ ?aik (fun hHeld=>?_)
        case aik=>(exact Below.alloc hHeld hHeld.size _)
        clear hK K
        try simp only [Act.put,la,lz,ls]
        refine ZM (p:=fun W=>wpAnyH _ _ _ _ _ _ _ _ W) (fun X hX=>?_)
        have hHX:Below wr.heap.size wr X:=by rw [hX];exact hHeld
        have g13:Held X (wr.heap.size+1) aj 42:=by rw [hX];exact ((Held.newAt _ aj 42 (by first | rfl | simp)).alloc _)
        have g14:Held X (wr.heap.size+2) aj 42:=by rw [hX];exact (Held.newAt _ aj 42 (by first | rfl | simp))
        have g15:Held X (wr.heap.size) JB 69:=by rw [hX];exact (((Held.newAt _ JB 69 (by first | rfl | simp)).alloc _).alloc _)
        clear hX hHeld
        refine wpAnyH_ready (rs:=[16]) (by kernel_rfl) (by simp) ?_
        refine ak1 (o:=_) (ga rfl) (by kernel_rfl) g13 (aW s1 As1 cs1) rfl Zc (dL _ _ _) (.tmp 8) (.tmp 24) rfl rfl rfl (below_setCells _ (by omega) _ _ _ _ hHX) ?_
        try simp only [Act.put,la,lz,ls]
        refine wpAnyH_ready (rs:=[17]) (by kernel_rfl) (by simp) ?_
        refine ak1 (o:=_) (ga rfl) (by kernel_rfl) (Held.others (by omega) _ _ _ g14) (aW s2 As2 cs2) rfl Zc (dL _ _ _) (.tmp 9) (.tmp 29) rfl rfl rfl (below_setCells _ (by omega) _ _ _ _ (below_setCells _ (by omega) _ _ _ _ hHX)) ?_
        try simp only [Act.put,la,lz,ls]
        refine wpAnyH_ready (rs:=[18]) (by kernel_rfl) (by simp) ?_
        refine ak1 (o:=_) (ga rfl) (by kernel_rfl) (Held.others (by omega) _ _ _ (Held.others (by omega) _ _ _ g15)) (au e) rfl Zf (uq _ _ _) (.tmp 10) (.tmp 33) rfl rfl rfl (below_setCells _ (by omega) _ _ _ _ (below_setCells _ (by omega) _ _ _ _ (below_setCells _ (by omega) _ _ _ _ hHX))) ?_
        try simp only [Act.put,la,lz,ls]
        refine wpAnyH_done (by kernel_rfl) ?_ _
        exact HJ7.out _ _ _ _ _ _ _ _ _ _ _ _ _ _ _ _ _ _ _ _ _ _ _ _ _ _ _ _ _ _ _ _ _ _ _ _ _ _ _ _ _ _ _ _ _ _ _ _ _ _ _ _ _ _ _ _ _ _ _ _ _ _ _ (ael g13 g14 g15 (by omega) (by omega) (by omega) rfl rfl rfl (below_setCells _ (by omega) _ _ _ _ (below_setCells _ (by omega) _ _ _ _ (below_setCells _ (by omega) _ _ _ _ hHX))))
      · go_simp
        refine hK.out _ _ ?ait (fun hHeld=>?_)
        case ait=>(exact Below.alloc hHeld hHeld.size _)
        clear hK K
        try simp only [Act.put,la,lz,ls]
        refine tr 13 fun K hK=>?_
        go_simp
        refine hK.out _ _ ?ah9 (fun hHeld=>?_)
        case ah9=>(exact Below.alloc hHeld hHeld.size _)
        clear hK K
        try simp only [Act.put,la,lz,ls]
        refine ZM (p:=fun W=>wpAnyH _ _ _ _ _ _ _ _ W) (fun X hX=>?_)
        have hHX:Below wr.heap.size wr X:=by rw [hX];exact hHeld
        have g13:Held X (wr.heap.size+2) aj 42:=by rw [hX];exact (Held.newAt _ aj 42 (by first | rfl | simp))
        have g14:Held X (wr.heap.size+1) aj 42:=by rw [hX];exact ((Held.newAt _ aj 42 (by first | rfl | simp)).alloc _)
        have g15:Held X (wr.heap.size) JB 69:=by rw [hX];exact (((Held.newAt _ JB 69 (by first | rfl | simp)).alloc _).alloc _)
        clear hX hHeld
        refine wpAnyH_ready (rs:=[16]) (by kernel_rfl) (by simp) ?_
        refine ak1 (o:=_) (ga rfl) (by kernel_rfl) g13 (aW s1 As1 cs1) rfl Zc (dL _ _ _) (.tmp 8) (.tmp 24) rfl rfl rfl (below_setCells _ (by omega) _ _ _ _ hHX) ?_
        try simp only [Act.put,la,lz,ls]
        refine wpAnyH_ready (rs:=[17]) (by kernel_rfl) (by simp) ?_
        refine ak1 (o:=_) (ga rfl) (by kernel_rfl) (Held.others (by omega) _ _ _ g14) (aW s2 As2 cs2) rfl Zc (dL _ _ _) (.tmp 9) (.tmp 29) rfl rfl rfl (below_setCells _ (by omega) _ _ _ _ (below_setCells _ (by omega) _ _ _ _ hHX)) ?_
        try simp only [Act.put,la,lz,ls]
        refine wpAnyH_ready (rs:=[18]) (by kernel_rfl) (by simp) ?_
        refine ak1 (o:=_) (ga rfl) (by kernel_rfl) (Held.others (by omega) _ _ _ (Held.others (by omega) _ _ _ g15)) (au e) rfl Zf (uq _ _ _) (.tmp 10) (.tmp 33) rfl rfl rfl (below_setCells _ (by omega) _ _ _ _ (below_setCells _ (by omega) _ _ _ _ (below_setCells _ (by omega) _ _ _ _ hHX))) ?_
        try simp only [Act.put,la,lz,ls]
        refine wpAnyH_done (by kernel_rfl) ?_ _
        exact HJ7.out _ _ _ _ _ _ _ _ _ _ _ _ _ _ _ _ _ _ _ _ _ _ _ _ _ _ _ _ _ _ _ _ _ _ _ _ _ _ _ _ _ _ _ _ _ _ _ _ _ _ _ _ _ _ _ _ _ _ _ _ _ _ _ (ael g13 g14 g15 (by omega) (by omega) (by omega) rfl rfl rfl (below_setCells _ (by omega) _ _ _ _ (below_setCells _ (by omega) _ _ _ _ (below_setCells _ (by omega) _ _ _ _ hHX))))
  · have hke:k=l.length:=by omega
    have i9:¬ ((k:Int)<(l.length:Int)):=by omega
    subst hke
    have hfn:ji r l l.length=(M.notes r (M.start r) 1 (plain l)):=by unfold ji;rw [List.take_length]
    have hfl:(M.notes r (M.start r) 1 (plain l)).length=l.length:=by rw [M.adO,eF]
    rw [hfn] at hor
    have hrd:Reads wr (fun b=>w.heap.size≤b) 6 A2 (M.notes r (M.start r) 1 (plain l)).length c2 ((M.notes r (M.start r) 1 (plain l)).flatMap abJ):=by
     rw [hfl]
     exact Reads.more (Reads.kG hor (fun g hg=>hg) (by omega)) (fun b _ h=>by have h:WL.heap.size≤b:=h;have:=hT.bw.size;omega)
    have HF:=hide (And.intro hrd (And.intro hfl (hT.bw.trans (hbr.mono hT.bw.size))))
    clear hfn hfl hor hrd
    go_wp2
    refine Q9.out _ _ ?_
    go_wp2
    go_ret
    exact ⟨A2,c2,by rw [HF.out.2.1];rfl,HF.out.1,HF.out.2.2⟩
theorem af8 (S:Nat→Prop) (r:M.Rules) (l:List Sh) (A0:Option Addr) (c0:Nat) (w:World) (hp:wG w S A0 c0 l) (hr:M.aH r=0) (hl:M.je (plain l)=0):
 Calls Tryz.prog 22 #[jM r,.slice A0 l.length c0] w fun e w'=>∃ A2 c2,e= .returned (.slice A2 (M.notes r (M.start r) 1 (plain l)).length c2)∧Reads w' (fun b=>w.heap.size≤b) 6 A2 (M.notes r (M.start r) 1 (plain l)).length c2 ((M.notes r (M.start r) 1 (plain l)).flatMap abJ)∧Below w.heap.size w w':=by
 have hp:=hp.more (S':=fun b=>S b∧b<w.heap.size) (fun b hb h=>⟨h,hb⟩)
 have HP:=hide hp
 have arf:=hide (aun S r l A0 c0 w HP (hide ⟨hr,hl⟩))
 have hst:=fun W h=>adf (fun b=>S b∧b<w.heap.size) r l A0 c0 W h hr hl
 have HST:=hide hst
 clear hst hr hl
 go_enter Tryz.func22,Tryz.ntmps22
 apply wp_seq_k
 intro K hK
 have HK:=hide hK
 clear hK
 have hB0:=(bU.nil w).new (by simp) ([.string r.game,.int .i64 r.target,.int .i64 r.aY]) 25
 go_wp2
 refine HK.out _ _ ?_
 refine ZM (p:=fun W=>Code.wp _ _ _ _ W) (fun w0 hw0=>?_)
 have hB:bU w w0 [([.string r.game,.int .i64 r.target,.int .i64 r.aY],25)]:=by rw [hw0];exact hB0
 clear hw0 hB0
 apply wp_seq_k
 intro K hK
 have HK:=hide hK
 clear hK
 go_wp2_with (first | (refine aN 25 (.tmp 2) rfl ?_;refine aG (hB.bf rfl) Tryz.underlying25 rfl Zm rfl (.tmp 2) rfl rfl ?_) | (go_at_call 67;refine (HST.out _ (hp.below hB.bw)).mono ?_;rintro e w1 ⟨L,A1,c1,rfl,hl1,hr1,hb1⟩;have hB1:=hB.call (by simp) hb1))
 refine HK.out _ _ ?_
 have HA:=arf.out
 apply HA
 have hsz:=hB.size (by simp)
 simp only [List.length_cons,List.length_nil] at hsz
 exact ⟨rfl,rfl,L,A1,c1,rfl,hl1,hB1.bf rfl,hr1.more (fun b _ h=>by rcases h with h | h;exact .inl h.1;exact .inr (by omega)),hB1.bw⟩
noncomputable def acn (n:Nat):Code:=dQ n ((Tryz.f3).body.getD .skip)
@[reducible] def RPQ (W0:World) (r:M.Rules) (l:List Sh) (Al:Option Addr) (cl:Nat) (F:Value→Value→Value→Value→Value→Value→Value→Value→Value→Value→Value→Value→Value→World→Prop) (n:Nat):Prop:=∀ (z0 z1 z2 z3 z4 z5 z6 z7 z8 z9 z10 z11 z12 z13 kD kK kF z17 kL jQ z20 z21 z22 z23 z24 z25 z26 z27 z28 z29 z30 z31 z32 z33 z34 z35 z36 z37 z38 z39 z40 z41 z42 z43 z44 z45 z46 z47 z48 z49 z50 z51 z52 z53 z54 z55 z56 z57 z58 z59 z60 z61 z62 z63 z64 z65 z66 z67 z68 z69 z70 z71 z72 z73 z74 z75 z76 z77 z78 z79 z80 mM z82 z83 z84 z85 z86 z87 mO z89 mP z91 mQ z93 mV mW mX mY mZ ng eU eX eY fA fB z105 fC z107 fD z109 fF fG fH fJ fK fM z116:Value) (W:World),F z1 z2 z5 z6 z7 z8 z9 z10 z11 z12 z13 kD kK W→(acn n).wp Tryz.prog (bodyPost Tryz.prog Tryz.f3 (fun e w'=>e= .returned (.bool true)∧Below W0.heap.size W0 w')) {tmps:= #[z0,z1,z2,z3,z4,z5,z6,z7,z8,z9,z10,z11,z12,z13,kD,kK,kF,z17,kL,jQ,z20,z21,z22,z23,z24,z25,z26,z27,z28,z29,z30,z31,z32,z33,z34,z35,z36,z37,z38,z39,z40,z41,z42,z43,z44,z45,z46,z47,z48,z49,z50,z51,z52,z53,z54,z55,z56,z57,z58,z59,z60,z61,z62,z63,z64,z65,z66,z67,z68,z69,z70,z71,z72,z73,z74,z75,z76,z77,z78,z79,z80,mM,z82,z83,z84,z85,z86,z87,mO,z89,mP,z91,mQ,z93,mV,mW,mX,mY,mZ,ng,eU,eX,eY,fA,fB,z105,fC,z107,fD,z109,fF,fG,fH,fJ,fK,fM,z116],defers:=[] } W
@[reducible] def asI (W0:World) (r:M.Rules) (l:List Sh) (Al:Option Addr) (cl:Nat):Prop:=RPQ W0 r l Al cl (fun z1 z2 _ _ _ _ _ _ _ _ _ _ _ W=>alr W0 r l Al cl z1 z2 W) 1
@[reducible] def aqm (W0:World) (r:M.Rules) (l:List Sh) (Al:Option Addr) (cl:Nat):Prop:=RPQ W0 r l Al cl (fun z1 z2 z5 z6 _ _ _ _ _ _ _ _ _ W=>agi W0 r l Al cl z1 z2 z5 z6 W) 2
@[reducible] def aqv (W0:World) (r:M.Rules) (l:List Sh) (Al:Option Addr) (cl:Nat):Prop:=RPQ W0 r l Al cl (fun z1 z2 z5 z6 _ _ _ _ _ _ _ _ _ W=>agi W0 r l Al cl z1 z2 z5 z6 W) 3
@[reducible] def aqD (W0:World) (r:M.Rules) (l:List Sh) (Al:Option Addr) (cl:Nat):Prop:=RPQ W0 r l Al cl (fun z1 z2 z5 z6 z7 z8 z9 _ _ _ _ _ _ W=>agi W0 r l Al cl z1 z2 z5 z6 W∧afa (sW r l) 33 z7 W∧agJ 2 ((xH r l).flatMap am2) (xH r l).length z8 W∧z9= .int .i64 (wP r l)) 4
@[reducible] def aqM (W0:World) (r:M.Rules) (l:List Sh) (Al:Option Addr) (cl:Nat):Prop:=RPQ W0 r l Al cl (fun z1 z2 z5 z6 z7 z8 z9 z10 z11 _ _ _ _ W=>agi W0 r l Al cl z1 z2 z5 z6 W∧(afa (sW r l) 33 z7 W∧agJ 2 ((xH r l).flatMap am2) (xH r l).length z8 W∧z9= .int .i64 (wP r l))∧agJ 6 ((lH r l).flatMap abJ) (lH r l).length z10 W∧z11= .int .i64 (wP r l)) 5
@[reducible] def aqU (W0:World) (r:M.Rules) (l:List Sh) (Al:Option Addr) (cl:Nat):Prop:=RPQ W0 r l Al cl (fun z1 z2 z5 z6 z7 z8 z9 z10 z11 z12 _ _ _ W=>agi W0 r l Al cl z1 z2 z5 z6 W∧(afa (sW r l) 33 z7 W∧agJ 2 ((xH r l).flatMap am2) (xH r l).length z8 W∧z9= .int .i64 (wP r l))∧(agJ 6 ((lH r l).flatMap abJ) (lH r l).length z10 W∧z11= .int .i64 (wP r l))∧z12= .int .i64 (wP r l)) 6
@[reducible] def alB (W0:World) (r:M.Rules) (l:List Sh) (Al:Option Addr) (cl:Nat):Prop:=RPQ W0 r l Al cl (fun _ _ _ _ z7 z8 z9 z10 z11 z12 z13 kD kK W=>(afa (sW r l) 33 z7 W∧agJ 2 ((xH r l).flatMap am2) (xH r l).length z8 W∧z9= .int .i64 (wP r l))∧(agJ 6 ((lH r l).flatMap abJ) (lH r l).length z10 W∧z11= .int .i64 (wP r l))∧z12= .int .i64 (wP r l)∧afa (sW r l) 42 z13 W∧agJ 2 ((xH r l).flatMap am2) (xH r l).length kD W∧agJ 6 ((lH r l).flatMap abJ) (lH r l).length kK W∧Below W0.heap.size W0 W) 10
@[reducible] def alJ (W0:World) (r:M.Rules) (l:List Sh) (Al:Option Addr) (cl:Nat):Prop:=RPQ W0 r l Al cl (fun _ _ _ _ _ z8 _ z10 _ _ _ kD kK W=>agJ 2 ((xH r l).flatMap am2) (xH r l).length z8 W∧agJ 2 ((xH r l).flatMap am2) (xH r l).length kD W∧agJ 6 ((lH r l).flatMap abJ) (lH r l).length z10 W∧agJ 6 ((lH r l).flatMap abJ) (lH r l).length kK W∧Below W0.heap.size W0 W) 11
@[reducible] def alS (W0:World) (r:M.Rules) (l:List Sh) (Al:Option Addr) (cl:Nat):Prop:=RPQ W0 r l Al cl (fun _ _ _ _ _ _ _ z10 _ _ _ _ kK W=>agJ 6 ((lH r l).flatMap abJ) (lH r l).length z10 W∧agJ 6 ((lH r l).flatMap abJ) (lH r l).length kK W∧Below W0.heap.size W0 W) 12
@[reducible] def al0 (W0:World) (r:M.Rules) (l:List Sh) (Al:Option Addr) (cl:Nat):Prop:=RPQ W0 r l Al cl (fun _ _ _ _ _ _ _ _ _ _ _ _ _ W=>Below W0.heap.size W0 W) 13
theorem avL (W0:World) (r:M.Rules) (l:List Sh) (Al:Option Addr) (cl:Nat) (HG:Hid (Glob W0)) (HN:Hid (aqm W0 r l Al cl)):asI W0 r l Al cl:=by
 dsimp only [asI,RPQ]
 intros
 rename_i W hf
 dsimp only [acn,dQ,Tryz.f3,Option.getD]
 have hF:=hf
 obtain ⟨rfl,rfl,h2,_,_,_,_⟩:=hf
 have hr2:∀ W',(fun w':World=>Below W.heap.size W w') W'→W'.rangeAt W0.heap.size 0 ([.string r.game,.int .i64 r.target,.int .i64 r.aY]):=fun W' h=>(h2.below h).range
 apply wp_seq_k
 intro K hK
 have HK:=hide hK
 clear hK
 refine wp_region_held_drew (S:=(fun w':World=>Below W.heap.size W w')) (by kernel_rfl) ?jw (fun hHeld=>?_)
 case jw=>exact (Below.refl _ _).drew
 refine wpAnyH_take (i:=0) (oi:=_) (v:=_) (ga rfl) (by kernel_rfl) (by kernel_rfl) (by kernel_rfl) (fun _ _ _ h=>h) (yieldsIf_load_mid (by rfl) _ _ (by rfl) _ _ (by rfl) _ _ hr2 Tryz.underlying23 rfl (by kernel_rfl)) (by assumption) ?_
 try simp only [Act.put,la,lz,ls]
 refine tk 1 ?_
 refine wpAnyH_ready (rs:=[2,3]) (by kernel_rfl) (by simp) ?_
 refine AllReadyH.cons (o:=_) (ga rfl) (fun K hK=>?_) (AllReadyH.cons (o:=_) (ga rfl) (fun K hK=>?_) AllReadyH.nil)
 · go_simp
   (go_at_call 15;refine (akN (fun _=>True) l Al cl _ (hF.rl.below hHeld) hF.ll hF.pl).mono ?_;rintro e w6 ⟨l',A6,c6,hpl,rfl,kP,hb6⟩;have iR:W.heap.size≤w6.heap.size:=Nat.le_trans hHeld.size hb6.size)
   refine hK.out _ _ ?ao0 (fun hHeld=>?_)
   case ao0=>(exact hHeld.trans (hb6.mono hHeld.size))
   clear hK K
   try simp only [Act.put,la,lz,ls]
   refine tr 3 fun K hK=>?_
   go_simp
   refine hK.out _ _ ?am6 (fun hHeld=>?_)
   case am6=>(exact Below.alloc hHeld hHeld.size _)
   clear hK K
   try simp only [Act.put,la,lz,ls]
   refine tr 4 fun K hK=>?_
   refine bF (cs:=[.string ⟨#[]⟩,.int .i64 0,.int .i64 0]) (by first | exact (Held.newAt _ [.string ⟨#[]⟩,.int .i64 0,.int .i64 0] 25 (by first | rfl | simp)) | exact (Held.newAt _ [.string ⟨#[]⟩,.int .i64 0,.int .i64 0] 25 (by first | rfl | simp)).drew.below hb6) [.string r.game,.int .i64 r.target,.int .i64 r.aY] rfl aad (xI _ _ _) (.tmp 5) (.tmp 18) rfl rfl rfl ?_
   refine hK.out _ _ ?ano (fun hHeld=>?_)
   case ano=>(exact below_setCells _ (by first | exact Nat.le_refl _ | exact iR | exact Nat.le_succ _ | exact Nat.le_succ_of_le iR) _ _ _ _ hHeld)
   clear hK K
   try simp only [Act.put,la,lz,ls]
   refine tk 5 ?_
   refine wpAnyH_done (by kernel_rfl) ?_ _
   refine HK.out _ _ ?_
   apply HN.out
   refine ⟨hF.below hHeld,_,A6,c6,l',rfl,?_,rfl,hpl,?_⟩
   · exact Held.whole (cs:=[.string ⟨#[]⟩,.int .i64 0,.int .i64 0]) (by first | exact (Held.newAt _ [.string ⟨#[]⟩,.int .i64 0,.int .i64 0] 25 (by first | rfl | simp)) | exact (Held.newAt _ [.string ⟨#[]⟩,.int .i64 0,.int .i64 0] 25 (by first | rfl | simp)).drew.below hb6) _ rfl
   · exact wG.more (wG.amQ kP (by first | exact Below.refl _ _ | exact (Below.refl _ _).alloc (Nat.le_refl _) _) (fun b hl h=>by have hq:=hb6.size;(try simp at hq);(try simp at h);intro e;omega)) (fun _ _ _=>trivial)
 · go_simp
   refine hK.out _ _ ?anf (fun hHeld=>?_)
   case anf=>(exact Below.alloc hHeld hHeld.size _)
   clear hK K
   try simp only [Act.put,la,lz,ls]
   refine tr 2 fun K hK=>?_
   go_simp
   (go_at_call 15;refine (akN (fun _=>True) l Al cl _ (hF.rl.below hHeld) hF.ll hF.pl).mono ?_;rintro e w6 ⟨l',A6,c6,hpl,rfl,kP,hb6⟩;have iR:W.heap.size≤w6.heap.size:=Nat.le_trans hHeld.size hb6.size)
   refine hK.out _ _ ?amY (fun hHeld=>?_)
   case amY=>(exact hHeld.trans (hb6.mono hHeld.size))
   clear hK K
   try simp only [Act.put,la,lz,ls]
   refine tr 4 fun K hK=>?_
   refine bF (cs:=[.string ⟨#[]⟩,.int .i64 0,.int .i64 0]) (by first | exact (Held.newAt _ [.string ⟨#[]⟩,.int .i64 0,.int .i64 0] 25 (by first | rfl | simp)) | exact (Held.newAt _ [.string ⟨#[]⟩,.int .i64 0,.int .i64 0] 25 (by first | rfl | simp)).drew.below hb6) [.string r.game,.int .i64 r.target,.int .i64 r.aY] rfl aad (xI _ _ _) (.tmp 5) (.tmp 18) rfl rfl rfl ?_
   refine hK.out _ _ ?anz (fun hHeld=>?_)
   case anz=>(exact below_setCells _ (by first | exact Nat.le_refl _ | exact iR | exact Nat.le_succ _ | exact Nat.le_succ_of_le iR) _ _ _ _ hHeld)
   clear hK K
   try simp only [Act.put,la,lz,ls]
   refine tk 5 ?_
   refine wpAnyH_done (by kernel_rfl) ?_ _
   refine HK.out _ _ ?_
   apply HN.out
   refine ⟨hF.below hHeld,_,A6,c6,l',rfl,?_,rfl,hpl,?_⟩
   · exact Held.whole (cs:=[.string ⟨#[]⟩,.int .i64 0,.int .i64 0]) (by first | exact (Held.newAt _ [.string ⟨#[]⟩,.int .i64 0,.int .i64 0] 25 (by first | rfl | simp)) | exact (Held.newAt _ [.string ⟨#[]⟩,.int .i64 0,.int .i64 0] 25 (by first | rfl | simp)).drew.below hb6) _ rfl
   · exact wG.more (wG.amQ kP (by first | exact Below.refl _ _ | exact (Below.refl _ _).alloc (Nat.le_refl _) _) (fun b hl h=>by have hq:=hb6.size;(try simp at hq);(try simp at h);intro e;omega)) (fun _ _ _=>trivial)
theorem avS (W0:World) (r:M.Rules) (l:List Sh) (Al:Option Addr) (cl:Nat) (HG:Hid (Glob W0)) (HN:Hid (aqv W0 r l Al cl)):aqm W0 r l Al cl:=by
 dsimp only [aqm,RPQ]
 intros
 rename_i W hf
 dsimp only [acn,dQ,Tryz.f3,Option.getD]
 have hE:=hf
 obtain ⟨hF,B5,A6,c6,l',rfl,h5,rfl,hpl,h6⟩:=id hE
 have hF':=hF
 obtain ⟨rfl,rfl,h2,hl,awS,awL,hbw⟩:=hF'
 have k0:=h2.cell (j:=0) rfl
 have HG9:=hide (HG.out.below hbw)
 apply wp_seq_k
 intro K hK
 have HK:=hide hK
 clear hK
 apply wp_seq_k
 intro K2 hK2
 have PD:=hide hK2
 clear hK2
 by_cases hg:60<r.game.size
 · have hg':(60:Int)<(r.game.size:Int):=by omega
   go_wp2_with (first | (refine aN 25 (.tmp 5) rfl ?_;refine aG (h5') Tryz.underlying25 rfl aad rfl (.tmp 5) rfl rfl ?_) | (refine aN 25 (.tmp 5) rfl ?_;refine su (h5') Tryz.underlying25 rfl aad rfl (.tmp 5) rfl rfl ?_) | (refine vg 25 (.tmp 5) rfl ?_;refine sD (h5') Tryz.underlying25 rfl aad (.tmp 5) rfl rfl ?_) | (go_at_call 16;refine (aln _ l' A6 c6 30 _ h6).mono ?_;rw [hpl,hd2];rintro e w2 ⟨rfl,hb2⟩;have HG9:=hide (HG9.out.below hb2);have h5':=h5.below hb2;have h6':=h6.below hb2;dsimp only) | (go_at_call 20;refine (ajh _ r l' A6 c6 _ h6').mono ?_;rw [hpl,hEq];rintro e w3 ⟨rfl,hb3⟩;have HG9:=hide (HG9.out.below hb3);dsimp only))
   refine PD.out _ _ ?_
   go_wp2_with (first | (go_at_call 17;refine (QJ _ HG9.out).mono ?_;rintro e w9 ⟨rfl,U6⟩;dsimp only))
   go_ret
   exact ⟨rfl,VY hbw U6⟩
 · have hg':¬ (60:Int)<(r.game.size:Int):=by omega
   obtain ⟨sb,hd2⟩:∃ q,ZV (plain l) 30=q:=⟨_,rfl⟩
   cases sb with
   | true=>
     go_wp2_with (first | (refine aN 25 (.tmp 5) rfl ?_;refine aG (h5') Tryz.underlying25 rfl aad rfl (.tmp 5) rfl rfl ?_) | (refine aN 25 (.tmp 5) rfl ?_;refine su (h5') Tryz.underlying25 rfl aad rfl (.tmp 5) rfl rfl ?_) | (refine vg 25 (.tmp 5) rfl ?_;refine sD (h5') Tryz.underlying25 rfl aad (.tmp 5) rfl rfl ?_) | (go_at_call 16;refine (aln _ l' A6 c6 30 _ h6).mono ?_;rw [hpl,hd2];rintro e w2 ⟨rfl,hb2⟩;have HG9:=hide (HG9.out.below hb2);have h5':=h5.below hb2;have h6':=h6.below hb2;dsimp only) | (go_at_call 20;refine (ajh _ r l' A6 c6 _ h6').mono ?_;rw [hpl,hEq];rintro e w3 ⟨rfl,hb3⟩;have HG9:=hide (HG9.out.below hb3);dsimp only))
     refine PD.out _ _ ?_
     go_wp2
     refine HK.out _ _ ?_
     apply HN.out
     exact hE.below hb2
   | false=>
     go_wp2_with (first | (refine aN 25 (.tmp 5) rfl ?_;refine aG (h5') Tryz.underlying25 rfl aad rfl (.tmp 5) rfl rfl ?_) | (refine aN 25 (.tmp 5) rfl ?_;refine su (h5') Tryz.underlying25 rfl aad rfl (.tmp 5) rfl rfl ?_) | (refine vg 25 (.tmp 5) rfl ?_;refine sD (h5') Tryz.underlying25 rfl aad (.tmp 5) rfl rfl ?_) | (go_at_call 16;refine (aln _ l' A6 c6 30 _ h6).mono ?_;rw [hpl,hd2];rintro e w2 ⟨rfl,hb2⟩;have HG9:=hide (HG9.out.below hb2);have h5':=h5.below hb2;have h6':=h6.below hb2;dsimp only) | (go_at_call 20;refine (ajh _ r l' A6 c6 _ h6').mono ?_;rw [hpl,hEq];rintro e w3 ⟨rfl,hb3⟩;have HG9:=hide (HG9.out.below hb3);dsimp only))
     refine PD.out _ _ ?_
     go_wp2_with (first | (go_at_call 17;refine (QJ _ HG9.out).mono ?_;rintro e w9 ⟨rfl,U6⟩;dsimp only))
     go_ret
     exact ⟨rfl,VY (VY hbw hb2) U6⟩
theorem avZ (W0:World) (r:M.Rules) (l:List Sh) (Al:Option Addr) (cl:Nat) (HG:Hid (Glob W0)) (HN:Hid (aqD W0 r l Al cl)):aqv W0 r l Al cl:=by
 dsimp only [aqv,RPQ]
 intros
 rename_i W hf
 dsimp only [acn,dQ,Tryz.f3,Option.getD]
 have hE:=hf
 obtain ⟨hA,B5,A6,c6,l',rfl,h5,rfl,hpl,h6⟩:=id hE
 obtain ⟨rfl,rfl,h2,hl,_,_,hbw⟩:=hA
 have hcl:=Gj _ r l Al cl W hl
 have JF:=hide hcl
 clear hcl
 apply wp_seq_k
 intro K hK
 have HK:=hide hK
 clear hK
 go_wp2_with (first | (refine aN 23 (.tmp 2) rfl ?_;refine aG (h2) Tryz.underlying23 rfl kV rfl (.tmp 2) rfl rfl ?_) | (go_at_call 18;refine JF.out.mono ?_;rintro e w1 ⟨A1,c1,A2,c2,rfl,hr1,hr2,hb1⟩;have hbx:=Held.new w1 aj 33;dsimp only) | (refine aO 33 (.tmp 7) (.tmp 35) rfl ?_;refine aF hbx (aW (sW r l) A1 c1) rfl bW (dL _ _ _) rfl (.tmp 7) (.tmp 35) rfl rfl rfl ?_))
 obtain ⟨hq,hb2⟩:=afa.new hr1 hbx
 have hbb:=hb1.trans (hb2.mono hb1.size)
 refine HK.out _ _ ?_
 apply HN.out
 exact ⟨hE.below hbb,hq,⟨A2,c2,rfl,Reads.more (Reads.below hr2 hb2) (fun _ _ _=>trivial)⟩,rfl⟩
theorem av7 (W0:World) (r:M.Rules) (l:List Sh) (Al:Option Addr) (cl:Nat) (HG:Hid (Glob W0)) (HN:Hid (aqM W0 r l Al cl)):aqD W0 r l Al cl:=by
 dsimp only [aqD,RPQ]
 intros
 rename_i W hf
 dsimp only [acn,dQ,Tryz.f3,Option.getD]
 obtain ⟨hE,h7,h8,rfl⟩:=hf
 obtain ⟨hA,B5,A6,c6,l',rfl,h5,rfl,hpl,h6⟩:=id hE
 obtain ⟨rfl,rfl,h2,hl,_,_,hbw⟩:=hA
 have hcl:=Io _ r l Al cl W hl
 have JF:=hide hcl
 clear hcl
 apply wp_seq_k
 intro K hK
 have HK:=hide hK
 clear hK
 go_wp2_with (first | (refine aN 23 (.tmp 2) rfl ?_;refine aG (h2) Tryz.underlying23 rfl kV rfl (.tmp 2) rfl rfl ?_) | (go_at_call 19;refine JF.out.mono ?_;rintro e w1 ⟨A1,c1,rfl,hr1,hb1⟩;dsimp only))
 refine HK.out _ _ ?_
 apply HN.out
 exact ⟨hE.below hb1,⟨h7.below hb1,h8.below hb1,rfl⟩,⟨A1,c1,rfl,Reads.more hr1 (fun _ _ _=>trivial)⟩,rfl⟩
theorem awg (W0:World) (r:M.Rules) (l:List Sh) (Al:Option Addr) (cl:Nat) (HG:Hid (Glob W0)) (HN:Hid (aqU W0 r l Al cl)):aqM W0 r l Al cl:=by
 dsimp only [aqM,RPQ]
 intros
 rename_i W hf
 dsimp only [acn,dQ,Tryz.f3,Option.getD]
 obtain ⟨hE,⟨h7,h8,rfl⟩,h10,rfl⟩:=hf
 obtain ⟨hA,B5,A6,c6,l',rfl,h5,rfl,hpl,h6⟩:=id hE
 obtain ⟨rfl,rfl,h2,hl,_,_,hbw⟩:=hA
 apply wp_seq_k
 intro K hK
 have HK:=hide hK
 clear hK
 go_wp2_with (first | (refine aN 25 (.tmp 5) rfl ?_;refine aG (h5) Tryz.underlying25 rfl aad rfl (.tmp 5) rfl rfl ?_) | (refine aN 25 (.tmp 5) rfl ?_;refine su (h5) Tryz.underlying25 rfl aad rfl (.tmp 5) rfl rfl ?_) | (refine vg 25 (.tmp 5) rfl ?_;refine sD (h5) Tryz.underlying25 rfl aad (.tmp 5) rfl rfl ?_) | (go_at_call 20;refine (ajh _ r l' A6 c6 _ h6).mono ?_;rw [hpl];rintro e w3 ⟨rfl,hb3⟩;dsimp only))
 refine HK.out _ _ ?_
 apply HN.out
 exact ⟨hE.below hb3,⟨h7.below hb3,h8.below hb3,rfl⟩,⟨h10.below hb3,rfl⟩,rfl⟩
theorem awn (W0:World) (r:M.Rules) (l:List Sh) (Al:Option Addr) (cl:Nat) (HG:Hid (Glob W0)) (HN:Hid (alB W0 r l Al cl)):aqU W0 r l Al cl:=by
 dsimp only [aqU,RPQ]
 intros
 rename_i W hf
 dsimp only [acn,dQ,Tryz.f3,Option.getD]
 obtain ⟨hE,⟨h7,h8,rfl⟩,⟨h10,rfl⟩,rfl⟩:=hf
 obtain ⟨hA,B5,A6,c6,l',rfl,h5,rfl,hpl,h6⟩:=id hE
 obtain ⟨rfl,rfl,h2,hl,_,_,hbw⟩:=hA
 have hz:=Held.new W aj 42
 have hba:=(Below.refl W.heap.size W).alloc (Nat.le_refl _) (.cells aj.toArray 42)
 have h5a:=h5.below hba
 have hne5:B5≠W.heap.size:=Nat.ne_of_lt h5.lt
 apply wp_seq_k
 intro K hK
 have HK:=hide hK
 clear hK
 go_wp2
 refine HK.out _ _ ?_
 apply wp_seq_k
 intro K2 hK2
 have PD:=hide hK2
 clear hK2
 go_wp2
 refine PD.out _ _ ?_
 apply wp_seq_k
 intro K3 hK3
 have HK3:=hide hK3
 clear hK3
 go_wp2
 refine HK3.out _ _ ?_
 apply wp_seq_k
 intro K4 hK4
 have HK4:=hide hK4
 clear hK4
 apply wp_seq_k
 intro K5 hK5
 have HK5:=hide hK5
 clear hK5
 by_cases h0:wP r l=0
 · have q0:(wP r l == 0)=true:=by simpa using h0
   have hck:=amo (show aU [M.aH r,M.je (plain l)]=0 from h0)
   have hcl:=afH (fun b=>b<W.heap.size) r l' A6 c6 _ (wG.below (h6.more (fun b hb _=>hb)) hba) hck.1 (by rw [hpl];exact hck.2)
   have hcn:=fun W' (h6':wG W' (fun b=>b<W.heap.size) A6 c6 l')=>af8 _ r l' A6 c6 W' h6' hck.1 (by rw [hpl];exact hck.2)
   rw [hpl] at hcl
   simp only [hpl] at hcn
   have hs:M.jy r (M.start r) 1 (plain l)=(xH r l):=(if_pos h0).symm
   have hs2:M.notes r (M.start r) 1 (plain l)=(lH r l):=(if_pos h0).symm
   have hs3:M.final r (M.start r) (plain l)=(sW r l):=(if_pos h0).symm
   rw [hs,hs3] at hcl
   simp only [hs2] at hcn
   have JF:=hide hcl
   have HCN:=hide hcn
   clear hcl hcn hs hs2 hs3 hck h0
   go_wp2
   refine HK5.out _ _ ?_
   refine wp_cond_true rfl ?_
   apply wp_seq_k
   intro K6 hK6
   have HK6:=hide hK6
   clear hK6
   go_wp2_with (first | (refine aN 25 (.tmp 5) rfl ?_;refine aG (h5a) Tryz.underlying25 rfl aad rfl (.tmp 5) rfl rfl ?_) | (refine aN 25 (.tmp 5) rfl ?_;refine su (h5a) Tryz.underlying25 rfl aad rfl (.tmp 5) rfl rfl ?_) | (refine vg 25 (.tmp 5) rfl ?_;refine sD (h5a) Tryz.underlying25 rfl aad (.tmp 5) rfl rfl ?_) | (go_at_call 21;refine JF.out.mono ?_;rintro e w1 ⟨A1,c1,A2,c2,rfl,hr1,hr2,hb1⟩;have hz1:=hz.below hb1;dsimp only) | (refine aO 42 (.tmp 13) (.tmp 53) rfl ?_;refine aF hz1 (aW (sW r l) A1 c1) rfl Z8 (dL _ _ _) rfl (.tmp 13) (.tmp 53) rfl rfl rfl ?_))
   refine HK6.out _ _ ?_
   obtain ⟨w3,hw3⟩:∃ q,w1.setCells W.heap.size 0 (aW (sW r l) A1 c1)=q:=⟨_,rfl⟩
   have arw:Below W.heap.size W w1:=hba.trans (hb1.mono hba.size)
   have hz3:Held w3 W.heap.size (aW (sW r l) A1 c1) 42:=hw3 ▸ hz1.whole (aW (sW r l) A1 c1) rfl
   have h5c:Held w3 B5 ([.string r.game,.int .i64 r.target,.int .i64 r.aY]) 25:=hw3 ▸ Held.others hne5 (aW (sW r l) A1 c1) 0 w1 (h5a.below hb1)
   have h6x:wG w3 (fun b=>b<W.heap.size) A6 c6 l':=hw3 ▸ wG.amQ (h6.more (fun b hb _=>hb)) arw (fun b hb _=>Nat.ne_of_lt hb)
   have hr3:bD w3 (fun b=>b≠W.heap.size) A1 c1 (sW r l).ay:=by
    rw [← hw3]
    exact bD.sets (fun h=>h rfl) _ 0 _ (bD.more hr1 (fun b hl h=>by simp at h;omega))
   have hr4:Reads w3 (fun b=>b≠W.heap.size) 2 A2 (xH r l).length c2 ((xH r l).flatMap am2):=by
    rw [← hw3]
    exact Reads.sets (fun h=>h rfl) _ 0 _ (Reads.more hr2 (fun b hl h=>by simp at h;omega))
   have hb3:Below W.heap.size W w3:=hw3 ▸ below_setCells _ (Nat.le_refl _) _ _ _ _ arw
   rw [hw3]
   clear hw3 hz1 hr1 hr2 hb1 arw h5 h5a h2 hl h6 hz hba JF
   go_wp2_with (first | (refine aN 25 (.tmp 5) rfl ?_;refine aG (h5c) Tryz.underlying25 rfl aad rfl (.tmp 5) rfl rfl ?_) | (refine aN 25 (.tmp 5) rfl ?_;refine su (h5c) Tryz.underlying25 rfl aad rfl (.tmp 5) rfl rfl ?_) | (refine vg 25 (.tmp 5) rfl ?_;refine sD (h5c) Tryz.underlying25 rfl aad (.tmp 5) rfl rfl ?_) | (go_at_call 22;refine (HCN.out _ h6x).mono ?_;rintro e w4 ⟨A3,c3,rfl,avp,hb4⟩;dsimp only))
   refine HK4.out _ _ ?_
   apply HN.out
   have hbX:=hb3.trans (hb4.mono hb3.size)
   exact ⟨⟨h7.below hbX,h8.below hbX,rfl⟩,⟨h10.below hbX,rfl⟩,rfl,⟨_,A1,c1,rfl,hz3.below hb4,bD.more (hr3.below hb4) (fun _ _ _=>trivial)⟩,⟨A2,c2,rfl,Reads.more (hr4.below hb4) (fun _ _ _=>trivial)⟩,⟨A3,c3,rfl,Reads.more avp (fun _ _ _=>trivial)⟩,VY hbw hbX⟩
 · have q0:(wP r l == 0)=false:=by simpa using h0
   have hs:(xH r l)=[]:=if_neg h0
   have hs2:(lH r l)=[]:=if_neg h0
   have hs3:(sW r l)=M.zero:=if_neg h0
   have HS:=hide (And.intro hs (And.intro hs2 hs3))
   clear hs hs2 hs3 h0
   go_wp2
   refine HK5.out _ _ ?_
   refine wp_cond_false rfl ?_
   go_wp2
   refine HK4.out _ _ ?_
   apply HN.out
   exact ⟨⟨h7.below hba,h8.below hba,rfl⟩,⟨h10.below hba,rfl⟩,rfl,by rw [HS.out.2.2];exact ⟨_,none,0,rfl,hz,bD.zero _⟩,by rw [HS.out.1];exact ⟨none,0,rfl,Reads.none_ _ _ _⟩,by rw [HS.out.2.1];exact ⟨none,0,rfl,Reads.none_ _ _ _⟩,VY hbw hba⟩
theorem auu (W0:World) (r:M.Rules) (l:List Sh) (Al:Option Addr) (cl:Nat) (HG:Hid (Glob W0)) (HN:Hid (alJ W0 r l Al cl)):alB W0 r l Al cl:=by
 dsimp only [alB,RPQ]
 intros
 rename_i W hf
 dsimp only [acn,dQ,Tryz.f3,Option.getD]
 obtain ⟨⟨h7,h8,rfl⟩,⟨h10,rfl⟩,rfl,h13,Xo,h15,hbw⟩:=hf
 have HQ:=hide (And.intro h8 (And.intro Xo (And.intro h10 h15)))
 obtain ⟨A8,c8,rfl,r8⟩:=h8
 obtain ⟨Yx,c14,rfl,r14⟩:=Xo
 obtain ⟨awv,awE,rfl,avE⟩:=h10
 obtain ⟨A15,c15,rfl,r15⟩:=h15
 obtain ⟨tn,htn⟩:∃ q,(sW r l)=q:=⟨_,rfl⟩
 rw [htn] at h7 h13
 obtain ⟨B10,Yv,c10,rfl,h10,r10⟩:=h7
 obtain ⟨B13,A13,c13,rfl,h13,r13⟩:=h13
 obtain ⟨E,hE⟩:∃ q,wP r l=q:=⟨_,rfl⟩
 rw [hE]
 have q1:(E != E)=false:=by simp
 have q2:(((xH r l).length:Int) != ((xH r l).length:Int))=false:=by simp
 have q3:(((lH r l).length:Int) != ((lH r l).length:Int))=false:=by simp
 clear hE htn r8 r14 avE r15
 apply wp_seq_k
 intro K hK
 have HK:=hide hK
 clear hK
 apply wp_seq_k
 intro K2 hK2
 have PD:=hide hK2
 clear hK2
 go_wp2_with (first | (refine aN 33 (.tmp 7) rfl ?_;refine aG (h10) Tryz.underlying33 rfl bW rfl (.tmp 7) rfl rfl ?_) | (refine aN 33 (.tmp 7) rfl ?_;refine su (h10) Tryz.underlying33 rfl bW rfl (.tmp 7) rfl rfl ?_) | (refine vg 33 (.tmp 7) rfl ?_;refine sD (h10) Tryz.underlying33 rfl bW (.tmp 7) rfl rfl ?_) | (refine aN 42 (.tmp 13) rfl ?_;refine aG (h13) Tryz.underlying42 rfl Z8 rfl (.tmp 13) rfl rfl ?_) | (refine aN 42 (.tmp 13) rfl ?_;refine su (h13) Tryz.underlying42 rfl Z8 rfl (.tmp 13) rfl rfl ?_) | (refine vg 42 (.tmp 13) rfl ?_;refine sD (h13) Tryz.underlying42 rfl Z8 (.tmp 13) rfl rfl ?_) | (go_at_call 23;refine (alK _ _ tn tn Yv A13 c10 c13 _ r10 r13).mono ?_;rw [M.State.eq_iff.2 rfl];rintro e w2 ⟨rfl,hb2⟩;dsimp only))
 refine PD.out _ _ ?_
 go_wp2
 refine HK.out _ _ ?_
 apply HN.out
 obtain ⟨g8,g14,g10,g15⟩:=HQ.out
 exact ⟨g8.below hb2,g14.below hb2,g10.below hb2,g15.below hb2,VY hbw hb2⟩
theorem auC (W0:World) (r:M.Rules) (l:List Sh) (Al:Option Addr) (cl:Nat) (HG:Hid (Glob W0)) (HN:Hid (alS W0 r l Al cl)):alJ W0 r l Al cl:=by
 dsimp only [alJ,RPQ]
 intros
 rename_i W hf
 dsimp only [acn,dQ,Tryz.f3,Option.getD]
 obtain ⟨h7,h10,g1,g2,hbw⟩:=hf
 obtain ⟨A7,c7,rfl,r7⟩:=h7
 obtain ⟨Yv,c10,rfl,r10⟩:=h10
 obtain ⟨ls,hls⟩:∃ q,(xH r l)=q:=⟨_,rfl⟩
 rw [hls] at r7 r10
 rw [hls]
 have hbl:=(Reads.bd r7).2.2
 clear hls
 apply wp_seq_k
 intro K1 hK1
 have Q9:=hide hK1
 clear hK1
 apply wp_seq_k
 intro K2 hK2
 have PD:=hide hK2
 clear hK2
 go_wp2
 refine PD.out _ _ ?_
 go_wp2
 go_loopw [88] (fun i wr=>∃ k:Nat,k≤ls.length∧i= .int .i64 k∧∃ n,wr=W.drewN n) (fun i _=>ls.length - (intOf i).toNat)
 case atStart=>exact ⟨0,Nat.zero_le _,rfl,0,rfl⟩
 case round=>
  obtain ⟨k,hk,rfl,nd,rfl⟩:=hrel
  by_cases hlt:k<ls.length
  · obtain ⟨b,o,rfl,_,P9,hcs⟩:=Reads.at_ r7 (by omega)
    obtain ⟨b',o',rfl,_,XM,hcs'⟩:=Reads.at_ r10 (by omega)
    have h00:=anT aqp hcs k hlt
    have h01:=anT aqp hcs' k hlt
    obtain ⟨a,ha⟩:∃ a,ls[k]=a:=⟨_,rfl⟩
    rw [ha] at h00 h01
    clear ha hcs hcs'
    obtain ⟨p1,p2⟩:=a
    have c0:W.cell? ⟨b,o+k*2,none⟩=some (.int .i64 p1):=h00 0 _ rfl
    have d0:W.cell? ⟨b',o'+k*2,none⟩=some (.int .i64 p1):=h01 0 _ rfl
    have c1:W.cell? ⟨b,o+k*2+1,none⟩=some (.int .i64 p2):=h00 1 _ rfl
    have d1:W.cell? ⟨b',o'+k*2+1,none⟩=some (.int .i64 p2):=h01 1 _ rfl
    have q0:(p1 == p1)=true:=beq_self_eq_true _
    have qn0:(p1 != p1)=false:=by simp
    have q1:(p2 == p2)=true:=beq_self_eq_true _
    have qn1:(p2 != p2)=false:=by simp
    have i1:(0:Int)≤(k:Int):=by omega
    have i2:(k:Int)<(ls.length:Int):=by omega
    clear h00 h01 r7 r10
    go_wp2
    go_quiet (fail)
    go_wp2
    go_roundw
    case rel=>exact ⟨k+1,by omega,by go_num,_,rfl⟩
    case measure=>simp [intOf];omega
  · have i9:¬ ((k:Int)<(ls.length:Int)):=by omega
    clear hlt
    go_wp2
    refine Q9.out _ _ ?_
    apply HN.out
    exact ⟨agJ.drewN g1 nd,agJ.drewN g2 nd,below_drewN hbw nd⟩
theorem auJ (W0:World) (r:M.Rules) (l:List Sh) (Al:Option Addr) (cl:Nat) (HG:Hid (Glob W0)) (HN:Hid (al0 W0 r l Al cl)):alS W0 r l Al cl:=by
 dsimp only [alS,RPQ]
 intros
 rename_i W hf
 dsimp only [acn,dQ,Tryz.f3,Option.getD]
 obtain ⟨h7,h10,hbw⟩:=hf
 obtain ⟨A7,c7,rfl,r7⟩:=h7
 obtain ⟨Yv,c10,rfl,r10⟩:=h10
 obtain ⟨ls,hls⟩:∃ q,(lH r l)=q:=⟨_,rfl⟩
 rw [hls] at r7 r10
 rw [hls]
 have hbl:=(Reads.bd r7).2.2
 clear hls
 apply wp_seq_k
 intro K1 hK1
 have Q9:=hide hK1
 clear hK1
 apply wp_seq_k
 intro K2 hK2
 have PD:=hide hK2
 clear hK2
 go_wp2
 refine PD.out _ _ ?_
 go_wp2
 go_loopw [103] (fun i wr=>∃ k:Nat,k≤ls.length∧i= .int .i64 k∧∃ n,wr=W.drewN n) (fun i _=>ls.length - (intOf i).toNat)
 case atStart=>exact ⟨0,Nat.zero_le _,rfl,0,rfl⟩
 case round=>
  obtain ⟨k,hk,rfl,nd,rfl⟩:=hrel
  by_cases hlt:k<ls.length
  · obtain ⟨b,o,rfl,_,P9,hcs⟩:=Reads.at_ r7 (by omega)
    obtain ⟨b',o',rfl,_,XM,hcs'⟩:=Reads.at_ r10 (by omega)
    have h00:=anT afP hcs k hlt
    have h01:=anT afP hcs' k hlt
    obtain ⟨a,ha⟩:∃ a,ls[k]=a:=⟨_,rfl⟩
    rw [ha] at h00 h01
    clear ha hcs hcs'
    obtain ⟨p1,p2,p3,p4,p5,p6⟩:=a
    have c0:W.cell? ⟨b,o+k*6,none⟩=some (.int .i64 p1):=h00 0 _ rfl
    have d0:W.cell? ⟨b',o'+k*6,none⟩=some (.int .i64 p1):=h01 0 _ rfl
    have c1:W.cell? ⟨b,o+k*6+1,none⟩=some (.int .i64 p2):=h00 1 _ rfl
    have d1:W.cell? ⟨b',o'+k*6+1,none⟩=some (.int .i64 p2):=h01 1 _ rfl
    have c2:W.cell? ⟨b,o+k*6+2,none⟩=some (.int .i64 p3):=h00 2 _ rfl
    have d2:W.cell? ⟨b',o'+k*6+2,none⟩=some (.int .i64 p3):=h01 2 _ rfl
    have c3:W.cell? ⟨b,o+k*6+3,none⟩=some (.int .i64 p4):=h00 3 _ rfl
    have d3:W.cell? ⟨b',o'+k*6+3,none⟩=some (.int .i64 p4):=h01 3 _ rfl
    have c4:W.cell? ⟨b,o+k*6+4,none⟩=some (.int .i64 p5):=h00 4 _ rfl
    have d4:W.cell? ⟨b',o'+k*6+4,none⟩=some (.int .i64 p5):=h01 4 _ rfl
    have c5:W.cell? ⟨b,o+k*6+5,none⟩=some (.bool p6):=h00 5 _ rfl
    have d5:W.cell? ⟨b',o'+k*6+5,none⟩=some (.bool p6):=h01 5 _ rfl
    have q0:(p1 == p1)=true:=beq_self_eq_true _
    have qn0:(p1 != p1)=false:=by simp
    have q1:(p2 == p2)=true:=beq_self_eq_true _
    have qn1:(p2 != p2)=false:=by simp
    have q2:(p3 == p3)=true:=beq_self_eq_true _
    have qn2:(p3 != p3)=false:=by simp
    have q3:(p4 == p4)=true:=beq_self_eq_true _
    have qn3:(p4 != p4)=false:=by simp
    have q4:(p5 == p5)=true:=beq_self_eq_true _
    have qn4:(p5 != p5)=false:=by simp
    have q5:(p6 == p6)=true:=beq_self_eq_true _
    have qn5:(p6 != p6)=false:=by simp
    have i1:(0:Int)≤(k:Int):=by omega
    have i2:(k:Int)<(ls.length:Int):=by omega
    clear h00 h01 r7 r10
    go_wp2
    go_quiet (fail)
    go_wp2
    go_roundw
    case rel=>exact ⟨k+1,by omega,by go_num,_,rfl⟩
    case measure=>simp [intOf];omega
  · have i9:¬ ((k:Int)<(ls.length:Int)):=by omega
    clear hlt
    go_wp2
    refine Q9.out _ _ ?_
    apply HN.out
    exact below_drewN hbw nd
theorem auQ (W0:World) (r:M.Rules) (l:List Sh) (Al:Option Addr) (cl:Nat) (HG:Hid (Glob W0)):al0 W0 r l Al cl:=by
 dsimp only [al0,RPQ]
 intros
 rename_i W hf
 dsimp only [acn,dQ,Tryz.f3,Option.getD]
 have hbw:=hf
 have HG9:=hide (HG.out.below hbw)
 apply wp_seq_k
 intro K hK
 have HK:=hide hK
 clear hK
 go_wp2_with (first | (go_at_call 17;refine (QJ _ HG9.out).mono ?_;rintro e w9 ⟨rfl,U6⟩;dsimp only))
 refine HK.out _ _ ?_
 go_wp2
 go_ret
 exact ⟨rfl,VY hbw U6⟩
theorem agP (W0:World) (hg:Glob W0) (r:M.Rules) (l:List Sh) (Al:Option Addr) (cl:Nat) (hl:wG W0 (fun _=>True) Al cl l) (hpl:∀ e∈l,e.x.aA.length*16≤140737488355328) (hll:l.length*80≤140737488355328):
 Calls Tryz.prog 3 #[jM r,.slice Al l.length cl] W0 fun e w'=>e= .returned (.bool true)∧Below W0.heap.size W0 w':=by
 have HG:=hide hg
 have hall:=avL W0 r l Al cl HG (hide (avS W0 r l Al cl HG (hide (avZ W0 r l Al cl HG (hide (av7 W0 r l Al cl HG (hide (awg W0 r l Al cl HG (hide (awn W0 r l Al cl HG (hide (auu W0 r l Al cl HG (hide (auC W0 r l Al cl HG (hide (auJ W0 r l Al cl HG (hide (auQ W0 r l Al cl HG))))))))))))))))))
 have arf:=hide hall
 clear hall
 go_enter Tryz.func3,Tryz.ntmps3
 apply wp_seq_k
 intro K hK
 have HK:=hide hK
 clear hK
 have hB:=(bU.nil W0).new (by simp) ([.string r.game,.int .i64 r.target,.int .i64 r.aY]) 23
 go_wp2
 refine HK.out _ _ ?_
 have HA:=arf.out
 apply HA
 exact ⟨rfl,rfl,hB.bf rfl,hl.below hB.bw,hpl,hll,hB.bw⟩
end Go.Proofs.YtelpepbpdojikaaGreatDoor
