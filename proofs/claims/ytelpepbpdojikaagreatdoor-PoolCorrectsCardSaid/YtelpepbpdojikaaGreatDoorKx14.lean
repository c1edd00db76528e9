/- Parts of a proof. -/
import Derived.Test.YtelpepbpdojikaaGreatDoorKg31
import Derived.Test.YtelpepbpdojikaaGreatDoorKx12
import Derived.Test.YtelpepbpdojikaaGreatDoorKx15
import Derived.Test.YtelpepbpdojikaaGreatDoorKx3
set_option maxHeartbeats 16000000
set_option maxRecDepth 100000
set_option linter.unusedVariables false
set_option linter.unusedSimpArgs false
namespace Go.Proofs.YtelpepbpdojikaaGreatDoor
open Go.RowKit
theorem wG.aAu {w6 X:World} {S:Nat→Prop} {A:Option Addr} {c g o:Nat} {l:List Sh} {v:List Value} (h:wG w6 S A c l) (hb:Below w6.heap.size w6 X) (hg:∀ b,b<w6.heap.size→S b→b≠g):wG (X.setCells g o v) S A c l:=
 h.keep (by rw [setCells_size];exact hb.size) fun b i hs hl=>(kN _ _ _ _ (hg b hl hs)).trans (hb.cell (p:=⟨b,i,none⟩) hl)
theorem am2 {a b:Int} (h:aU [a,b]=0):a=0∧b=0:=by
 unfold aU at h
 split at h
 · next h1=>exact absurd h h1
 · next h1=>
   have ha:a=0:=by simpa using h1
   refine ⟨ha,?_⟩
   unfold aU at h
   split at h
   · next h2=>exact absurd h h2
   · next h2=>simpa using h2
theorem Z4:(Tryz.prog.info? 25).map (·.size)=some 3:=by kernel_rfl
theorem Zi:(Tryz.prog.info? 69).map (·.size)=some 7:=by kernel_rfl
theorem aFW {r:M.Rules} {l:List M.aI} {k:Nat} (hr:M.aH r=0) (hl:M.je l=0) (hk:k<l.length) (hg:M.legal r (M.TS r l k) l[k]=0):aaZ r (M.TS r l k) l[k]:=
 ⟨((M.Zt l).1 hl).2 _ (List.getElem_mem hk),hr,ax0 hr hl k,M.lawful hg⟩
structure acg (S:Nat→Prop) (r:M.Rules) (pl:List M.aI) (w:World) (B5 k m:Nat) (L:List StE) (A:Option Addr) (c:Nat) (s:M.State) (As:Option Addr) (cs:Nat) (W:World):Prop where
 lst:StL r pl k L
 hr:Held W w.heap.size ([.string r.game,.int .i64 r.target,.int .i64 r.aY]) 25
 hs:Held W B5 (aW s As cs) 42
 rs:bD W (fun b=>(fun b=>((S b∧b<w.heap.size)∨w.heap.size+1≤b)∧b≠B5) b∧(Value.slice A L.length c).ownBlock≠some b) As cs s.ay
 row:ZH 42 (B5+1) (fun b=>((S b∧b<w.heap.size)∨w.heap.size+1≤b)∧b≠B5) L A c W
 lt:w.heap.size<B5
 hse:s=M.TS r pl m
 bw:Below w.heap.size w W
theorem acg.below {S:Nat→Prop} {r:M.Rules} {pl:List M.aI} {w:World} {B5 k m:Nat} {L:List StE} {A:Option Addr} {c:Nat} {s:M.State} {As:Option Addr} {cs:Nat} {W W':World} (h:acg S r pl w B5 k m L A c s As cs W) (hb:Below W.heap.size W W'):acg S r pl w B5 k m L A c s As cs W':=
 ⟨h.lst,h.hr.below hb,h.hs.below hb,h.rs.below hb,h.row.below hb,h.lt,h.hse,VY h.bw hb⟩
theorem acg.drew {S:Nat→Prop} {r:M.Rules} {pl:List M.aI} {w:World} {B5 k m:Nat} {L:List StE} {A:Option Addr} {c:Nat} {s:M.State} {As:Option Addr} {cs:Nat} {W:World} (h:acg S r pl w B5 k m L A c s As cs W):acg S r pl w B5 k m L A c s As cs W.drew:=
 ⟨h.lst,h.hr,h.hs,h.rs,h.row.drew,h.lt,h.hse,h.bw.drew⟩
theorem acg.set {S:Nat→Prop} {r:M.Rules} {pl:List M.aI} {w:World} {B5 k m m':Nat} {L:List StE} {A:Option Addr} {c:Nat} {s t:M.State} {As A3:Option Addr} {cs c3:Nat} {W W3:World} (h:acg S r pl w B5 k m L A c s As cs W) (hb:Below W.heap.size W W3)
 (hr:bD W3 (fun b=>((fun b=>(fun b=>((S b∧b<w.heap.size)∨w.heap.size+1≤b)∧b≠B5) b∧(Value.slice A L.length c).ownBlock≠some b) b∧b<W.heap.size)∨W.heap.size≤b) A3 c3 t.ay) (ht:t=M.TS r pl m'):Held W3 B5 (aW s As cs) 42∧acg S r pl w B5 k m' L A c t A3 c3 (W3.setCells B5 0 (aW t A3 c3)):=by
 have h5:=h.hs.lt;have hl:=h.lt;have hs:=hb.size;refine ⟨h.hs.below hb,h.lst,Held.others (by omega) _ _ _ (h.hr.below hb),(h.hs.below hb).whole _ rfl,bD.sets (fun hx=>hx.1.2 rfl) _ _ _ (bD.more hr (fun b _ hx=>?_)),(h.row.below hb).sets (by omega) (fun hx=>hx.2 rfl) _ _,h.lt,ht,below_setCells _ (by omega) _ _ _ _ (VY h.bw hb)⟩
 rcases hx with hx | hx
 · exact hx.1
 · exact ⟨⟨.inr (by omega),by omega⟩,fun e=>by have:=aBR h.row.own e;omega⟩
noncomputable def arF (n:Nat):Code:=dQ n ((Tryz.f67).body.getD .skip)
@[reducible] def aCE (S:Nat→Prop) (r:M.Rules) (l:List Sh) (A0:Option Addr) (c0:Nat) (w:World) (F:Value→Value→Value→Value→World→Prop) (n:Nat):Prop:=∀ (z0 z1 z2 z3 z4 z5 z6 z7 z8 z9 z10 z11 z12 z13 kD kK kF z17 kL jQ z20 z21 z22 z23 z24 z25 z26 z27 z28 z29 z30 z31 z32 z33 z34 z35 z36 z37:Value) (W:World),F z1 z2 z5 z6 W→(arF n).wp Tryz.prog (bodyPost Tryz.prog Tryz.f67 (fun e w'=>∃ L A' c',e= .returned (.slice A' L.length c')∧StL r (plain l) l.length L∧RdT w' (fun b=>(S b∧b<w.heap.size)∨w.heap.size≤b) A' c' L∧Below w.heap.size w w')) {tmps:= #[z0,z1,z2,z3,z4,z5,z6,z7,z8,z9,z10,z11,z12,z13,kD,kK,kF,z17,kL,jQ,z20,z21,z22,z23,z24,z25,z26,z27,z28,z29,z30,z31,z32,z33,z34,z35,z36,z37],defers:=[] } W
@[reducible] def az2 (S:Nat→Prop) (r:M.Rules) (l:List Sh) (A0:Option Addr) (c0:Nat) (w:World):Prop:=aCE S r l A0 c0 w (fun z1 z2 z5 z6 W=>z1= .slice A0 l.length c0∧z2=ptr w.heap.size∧∃ B5 L A c s As cs,z5=ptr B5∧z6= .slice A (L:List StE).length c∧acg S r (plain l) w B5 0 0 L A c s As cs W) 3
theorem aGv (S:Nat→Prop) (r:M.Rules) (l:List Sh) (A0:Option Addr) (c0:Nat) (w:World) (HP:Hid (wG w (fun b=>S b∧b<w.heap.size) A0 c0 l)) (wZ:Hid (M.aH r=0∧M.je (plain l)=0)):az2 S r l A0 c0 w:=by
 dsimp only [az2,aCE]
 intro z0 _ _ z3 z4 _ _ _ z8 z9 z10 z11 z12 z13 kD kK kF z17 kL jQ z20 z21 z22 z23 z24 z25 z26 z27 z28 z29 z30 z31 z32 z33 z34 z35 z36 z37 W hf
 dsimp only [arF,dQ,Tryz.f67,Option.getD]
 obtain ⟨rfl,rfl,B5,L0,Aa,ca,s0,As0,cs0,rfl,rfl,hI⟩:=hf;have hp:=HP.out;obtain ⟨b1,b2,b3⟩:=hp.bd;have hn:=((M.Zt _).1 wZ.out.2).1;rw [eF] at hn;obtain ⟨i0,hi0,hz0,hz1,hz2⟩:=info_parts alR;apply wp_seq_k;intro K1 hK1;have Q9:=hide hK1;clear hK1;apply wp_seq_k;intro K2 hK2;have PD:=hide hK2;clear hK2;go_wp2;refine PD.out _ _ ?_;go_wp2
 go_loopw [6,7] (fun v i wr=>∃ (k:Nat) (L:List StE) (A:Option Addr) (c:Nat) (s:M.State) (As:Option Addr) (cs:Nat),k≤l.length∧i= .int .i64 k∧v= .slice A L.length c∧acg S r (plain l) w B5 k k L A c s As cs wr) (fun _ i=>fun _=>l.length - (intOf i).toNat)
 case atStart=>exact ⟨0,_,_,_,_,_,_,Nat.zero_le _,rfl,rfl,hI⟩
 case round=>
  clear hI;obtain ⟨k,L,A,c,s,As,cs,hk,rfl,rfl,hI⟩:=hrel
  by_cases hlt:k<l.length
  · obtain ⟨b,o,rfl,hSb,hbl,hcs⟩:=Reads.at_ (hp.below hI.bw).1 (by omega)
    have h00:wr.rangeAt b (o+k*7) (au l[k]):=fun j v hj=>by
     have hj7:j<7:=(List.getElem?_eq_some_iff.1 hj).1;rw [Nat.add_assoc];exact hcs _ _ ((jI l k hlt j hj7).trans hj)
    have hpo:=(hp.below hI.bw).aA k hlt;have hNX:=fun hg=>aFW (r:=r) (l:=plain l) (k:=k) wZ.out.1 wZ.out.2 (by rw [eF];exact hlt) hg;rw [← hI.hse,Iu l k hlt] at hNX;have hst1:=atL (r:=r) (l:=plain l) (k:=k) (by rw [eF];exact hlt);rw [← hI.hse,Iu l k hlt] at hst1;obtain ⟨e,he⟩:∃ q,l[k]=q:=⟨_,rfl⟩;rw [he] at h00 hpo hNX hst1;have hLE:=fun W' (h:(fun w':World=>Below wr.heap.size wr w') W')=>alD (fun _=>True) r s e.x As e.a cs e.c W' ((bD.more hI.rs (fun _ _ _=>trivial)).below h) (Reads.below (Reads.more hpo (fun _ _ _=>trivial)) h);have QH:=hide hLE;have aCj:=hide hst1;have VP:=hide hNX;have UC:=hide hpo;have hr0:∀ W',(fun w':World=>Below wr.heap.size wr w') W'→W'.rangeAt w.heap.size 0 ([.string r.game,.int .i64 r.target,.int .i64 r.aY]):=fun W' h=>(hI.hr.below h).range;have hr1:∀ W',(fun w':World=>Below wr.heap.size wr w') W'→W'.rangeAt B5 0 (aW s As cs):=fun W' h=>(hI.hs.below h).range;have SC:∀ W',(fun w':World=>Below wr.heap.size wr w') W'→W'.rangeAt b (o+k*7) (au e):=fun W' h j v hj=>(h.cell (p:=⟨b,o+k*7+j,none⟩) hbl).trans (h00 j v hj)
    have i1:(0:Int)≤(k:Int):=by omega
    have i2:(k:Int)<(l.length:Int):=by omega
    clear hLE hst1 hNX he hcs hp hpo;have aHi:=hide h00;clear h00;go_wp2;rename_i K8 hK8 KC hKC
    have J:∀ (s2:M.State) (As2:Option Addr) (cs2:Nat) (z12 z13 kD kK kF z17 kL jQ z20 z21 z22 z23 z24 z25 z26 z27 z28 z29 z30 z31 z32 z33 z34 z35 z36:Value) (wx:World),(acg S r (plain l) w B5 k (k+1) L A c s2 As2 cs2 wx)→K8 {tmps:= #[z0,.slice (some ⟨b,o,none⟩) l.length c0,ptr w.heap.size,z3,z4,ptr B5,.slice A L.length c,.int .i64 (k:Int),z8,z9,z10,z11,z12,z13,kD,kK,kF,z17,kL,jQ,z20,z21,z22,z23,z24,z25,z26,z27,z28,z29,z30,z31,z32,z33,z34,z35,z36,z37],defers:=[] } wx:=by
     intro s2 As2 cs2 z12 z13 kD kK kF z17 kL jQ z20 z21 z22 z23 z24 z25 z26 z27 z28 z29 z30 z31 z32 z33 z34 z35 z36 wx hrel;refine hK8 _ _ ?_
     try dsimp only
     have hI:=hrel;have hsx:Held wx B5 [.int .i64 s2.turn,.bool s2.brk,.bool s2.hand,.bool s2.push,.bool s2.pushed,.int .i64 s2.group,.slice As2 s2.ay.length cs2,.int .i64 s2.s0,.int .i64 s2.s1,.int .i64 s2.f0,.int .i64 s2.f1,.int .i64 s2.run,.int .i64 s2.aZ,.bool s2.over,.int .i64 s2.bC] 42:=hI.hs;have hlL:=hI.lst.len;have hltx:=hI.hs.lt;have HLL:=hide hlL
     have hL1:L.length≤1001:=by omega
     clear hlL
     go_wp2_with (first | (refine aN 42 (.tmp 5) rfl ?_;refine aG (hsx) Tryz.underlying42 rfl Zd rfl (.tmp 5) rfl rfl ?_) | (at_builtin;refine wpList_append_lies _ rfl _ _ _ rfl (B5+1) 42 i0 (.agg aj.toArray) 15 112 Tryz.underlying135 hi0 hz0 hz1 hz2 rfl (by omega) _ _ _ rfl (hI.row.own.alloc _) ⟨wx.heap.size,0,none⟩ 1 1 [.int .i64 s2.turn,.bool s2.brk,.bool s2.hand,.bool s2.push,.bool s2.pushed,.int .i64 s2.group,.slice As2 s2.ay.length cs2,.int .i64 s2.s0,.int .i64 s2.s1,.int .i64 s2.f0,.int .i64 s2.f1,.int .i64 s2.run,.int .i64 s2.aZ,.bool s2.over,.int .i64 s2.bC] rfl rfl (dK _ _ _ _ rfl) (dL s2 As2 cs2) (by omega) (by simp only [maxLen];omega) (by omega) (by simp;omega) (wx.heap.size+1) (by simp) ?_))
     intro g1 cap w4 hown4 hgrow hat _;have hge:∀ g,(Value.slice A L.length c).ownBlock=some g→B5+1≤g:=fun g hg=>(bg hI.row.own hg).1;have hl5:=hI.lt
     have hI4:acg S r (plain l) w B5 (k+1) (k+1) (L++[⟨s2,As2,cs2⟩]) (some ⟨g1,0,none⟩) cap s2 As2 cs2 w4:=by
      have hl1:(L++[(⟨s2,As2,cs2⟩:StE)]).length=L.length+1:=by simp
      refine ⟨hI.lst.snoc hI.hse,hI.hr.blk (ahY hgrow (by omega) (fun e=>by have:=hge _ e;omega)),hI.hs.blk (ahY hgrow hltx (fun e=>by have:=hge _ e;omega)),?_,hI.row.append (x:=⟨s2,As2,cs2⟩) hI.rs hgrow hown4 hat,hI.lt,hI.hse,hI.bw.trans (asg hgrow (fun g hg=>by have:=hge g hg;omega) hI.bw.size)⟩;rw [hl1];exact ZH.apart hgrow hat hI.rs
     have HI4:=hide hI4;clear hI4 hown4 hgrow hge hat hI hrel hsx;go_wp2
     go_roundw
     case rel=>exact ⟨k+1,L++[⟨s2,As2,cs2⟩],some ⟨g1,0,none⟩,cap,s2,As2,cs2,by omega,by go_num,by simp,HI4.out⟩
     case measure=>simp [intOf];omega
    clear hK8;have HJ:=hide J;clear J
    by_cases Vb:M.legal r s e.x=0
    · have q1:(M.legal r s e.x == 0)=true:=by simpa using Vb
      have HLG:=hide Vb;clear Vb;refine wp_region_held_drew (S:=(fun w':World=>Below wr.heap.size wr w')) (by kernel_rfl) ?jw (fun hHeld=>?_)
      case jw=>exact (Below.refl _ _).drew
      refine Zf 0 hr0 Tryz.underlying25 ?_;refine Zf 1 hr1 Tryz.underlying42 ?_;refine tk 2 ?_;refine tk 3 ?_;refine tk 4 ?_;refine Zf 5 SC Tryz.underlying69 ?_;refine tr 6 fun K hK=>?_;go_simp
      (go_at_call 46;refine (QH.out _ hHeld).mono ?_;rintro e w2 ⟨rfl,hb2⟩)
      refine Zc hK (hHeld.trans (hb2.mono hHeld.size)) fun hHeld=>?_;clear hK K;refine tk 7 ?_;refine wpAnyH_done (by kernel_rfl) ?_ _;refine hKC _ _ ?_;refine wp_cond_true rfl ?_;refine ZG (p:=fun W=>Code.wp _ _ _ _ W) (fun wz hwz=>?_)
      have hHz:Below wr.heap.size wr wz:=by rw [hwz];exact hHeld
      clear hwz hHeld;have hIz:=hI.below hHz;clear hr0 hr1 SC hb2 QH
      obtain ⟨tn,htn⟩:∃ q,M.next r s e.x=q:=⟨_,rfl⟩
      have hpo:=UC.out.below hHz;have hge:∀ g,(Value.slice A L.length c).ownBlock=some g→B5+1≤g:=fun g hg=>(bg hI.row.own hg).1;have hl5:=hI.lt;have hnx:=fun W' (h:Below wz.heap.size wz W')=>anM (fun b=>(fun b=>((S b∧b<w.heap.size)∨w.heap.size+1≤b)∧b≠B5) b∧(Value.slice A L.length c).ownBlock≠some b) r s e.x As e.a cs e.c W' (hIz.rs.below h) (Reads.below (Reads.more hpo (fun b _ h=>⟨⟨.inl h,by omega⟩,fun e=>by have:=hge _ e;omega⟩)) h) (VP.out HLG.out);rw [htn] at hnx;have VK:=hide hnx;have HTN:=hide (show tn=M.TS r (plain l) (k+1) by rw [aCj.out,ax7 HLG.out,htn]);have hwz:=hHz.size
      have hr0:∀ W',(fun w':World=>∀ p q,p<wz.heap.size→p≠B5→w'.cell? ⟨p,q,none⟩=wz.cell? ⟨p,q,none⟩) W'→W'.rangeAt w.heap.size 0 ([.string r.game,.int .i64 r.target,.int .i64 r.aY]):=fun W' h j v hj=>by rw [h _ _ hIz.hr.lt (by omega)];exact hIz.hr.range j v hj
      have SC:∀ W',(fun w':World=>∀ p q,p<wz.heap.size→p≠B5→w'.cell? ⟨p,q,none⟩=wz.cell? ⟨p,q,none⟩) W'→W'.rangeAt b (o+k*7) (au e):=fun W' h j v hj=>by rw [h _ _ (by omega) (by omega)];exact (hHz.cell (p:=⟨b,o+k*7+j,none⟩) hbl).trans (aHi.out j v hj)
      clear hnx htn hpo hge;refine wp_region_held_drew (S:=(fun w':World=>∀ p q,p<wz.heap.size→p≠B5→w'.cell? ⟨p,q,none⟩=wz.cell? ⟨p,q,none⟩)) (by kernel_rfl) ?eP (fun hHeld=>?_)
      case eP=>exact fun p q _ _=>rfl
      refine Zf 0 hr0 Tryz.underlying25 ?_;refine tk 2 ?_;refine tk 3 ?_;refine tk 4 ?_;refine Zf 5 SC Tryz.underlying69 ?_;refine tr 1 fun K hK=>?_;refine arM (by kernel_rfl) ?_;refine sD (show Held wz.drew B5 (aW s As cs) 42 from hIz.hs) Tryz.underlying42 rfl Zd (.tmp 5) rfl rfl ?_;refine Zc hK (fun p q _ _=>rfl) fun hHeld=>?_;clear hK K;refine tr 6 fun K hK=>?_;go_simp
      (go_at_call 47;refine (VK.out _ (Below.refl _ _).drew).mono ?_;rintro e3 w3 ⟨A3,c3,rfl,hr3,hb3⟩;obtain ⟨hH3,hJ3⟩:=acg.set hIz.drew hb3 hr3 HTN.out)
      refine Zc hK (fun p q hp _=>hb3.cell (p:=⟨p,q,none⟩) hp) fun hHeld=>?_;clear hK K;refine tr 7 fun K hK=>?_;refine arM (by kernel_rfl) ?_;refine bF (cs:=aW s As cs) hH3 (aW tn A3 c3) rfl Zd (dL _ _ _) (.tmp 5) (.tmp 32) rfl rfl rfl ?_;refine Zc hK (fun p q hp hn=>(kN _ _ _ _ hn).trans (hHeld p q hp hn)) fun hHeld=>?_;clear hK K;refine wpAnyH_done (by kernel_rfl) ?_ _;exact HJ.out tn A3 c3 _ _ _ _ _ _ _ _ _ _ _ _ _ _ _ _ _ _ _ _ _ _ _ _ _ _ hJ3
    · have q1:(M.legal r s e.x == 0)=false:=by simpa using Vb
      have HLG:=hide Vb;clear Vb;refine wp_region_held_drew (S:=(fun w':World=>Below wr.heap.size wr w')) (by kernel_rfl) ?lJ (fun hHeld=>?_)
      case lJ=>exact (Below.refl _ _).drew
      refine Zf 0 hr0 Tryz.underlying25 ?_;refine Zf 1 hr1 Tryz.underlying42 ?_;refine tk 2 ?_;refine tk 3 ?_;refine tk 4 ?_;refine Zf 5 SC Tryz.underlying69 ?_;refine tr 6 fun K hK=>?_;go_simp
      (go_at_call 46;refine (QH.out _ hHeld).mono ?_;rintro e w2 ⟨rfl,hb2⟩)
      refine Zc hK (hHeld.trans (hb2.mono hHeld.size)) fun hHeld=>?_;clear hK K;refine tk 7 ?_;refine wpAnyH_done (by kernel_rfl) ?_ _;refine hKC _ _ ?_;refine wp_cond_false rfl ?_;refine ZG (p:=fun W=>Code.wp _ _ _ _ W) (fun wz hwz=>?_)
      have hHz:Below wr.heap.size wr wz:=by rw [hwz];exact hHeld
      clear hwz hHeld;have hIz:=hI.below hHz;clear hr0 hr1 SC hb2 QH;go_wp2;exact HJ.out s As cs _ _ _ _ _ _ _ _ _ _ _ _ _ _ _ _ _ _ _ _ _ _ _ _ _ _ ⟨hIz.lst,hIz.hr,hIz.hs,hIz.rs,hIz.row,hIz.lt,by rw [aCj.out,azH HLG.out],hIz.bw⟩
  · have hke:k=l.length:=by omega
    have i9:¬ ((k:Int)<(l.length:Int)):=by omega
    have hfin:StL r (plain l) l.length L∧RdT wr (fun b=>(S b∧b<w.heap.size)∨w.heap.size≤b) A c L:=by
     have h1:=hI.lst;have hl1:=h1.len;have hl5:=hI.lt;rw [hke] at h1;refine ⟨h1,hI.row.read (by omega) (fun b hb=> .inr (by omega)) (fun b hb=>?_)⟩
     rcases hb.1 with h | h
     · exact .inl h
     · exact .inr (by omega)
    have HF:=hide (And.intro hfin hI.bw);clear hke hfin hI hp;go_wp2;refine Q9.out _ _ ?_;go_wp2;go_ret;exact ⟨L,A,c,rfl,HF.out.1.1,HF.out.1.2,HF.out.2⟩
theorem acV (S:Nat→Prop) (r:M.Rules) (l:List Sh) (A0:Option Addr) (c0:Nat) (w:World) (hp:wG w S A0 c0 l) (hr:M.aH r=0) (hl:M.je (plain l)=0):
 Calls Tryz.prog 67 #[jM r,.slice A0 l.length c0] w fun e w'=>∃ L A' c',e= .returned (.slice A' L.length c')∧StL r (plain l) l.length L∧RdT w' (fun b=>(S b∧b<w.heap.size)∨w.heap.size≤b) A' c' L∧Below w.heap.size w w':=by
 have HP:=hide (hp.more (S':=fun b=>S b∧b<w.heap.size) (fun b hb h=>⟨h,hb⟩));have aks:=hide (aGv S r l A0 c0 w HP (hide ⟨hr,hl⟩));obtain ⟨s0,hs0⟩:∃ q,M.start r=q:=⟨_,rfl⟩;have hst:=fun W=>alK r W;rw [hs0] at hst;have HST:=hide hst;have wZ:=hide (And.intro hr hl);have HS0:=hide hs0;clear hst hr hl hs0
 go_enter Tryz.func67,Tryz.ntmps67
 apply wp_seq_k;intro K hK;have HK:=hide hK;clear hK;have hB0:=(bU.nil w).new (by simp) ([.string r.game,.int .i64 r.target,.int .i64 r.aY]) 25;go_wp2;refine HK.out _ _ ?_;refine ZG (p:=fun W=>Code.wp _ _ _ _ W) (fun w0 hw0=>?_)
 have hB:bU w w0 [([.string r.game,.int .i64 r.target,.int .i64 r.aY],25)]:=by rw [hw0];exact hB0
 clear hw0 hB0;apply wp_seq_k;intro K hK;have HK:=hide hK;clear hK
 go_wp2_with (first | (refine aN 25 (.tmp 2) rfl ?_;refine aG (hB.bf rfl) Tryz.underlying25 rfl ZA rfl (.tmp 2) rfl rfl ?_) | (go_at_call 38;refine (HST.out _).mono ?_;rintro e w1 ⟨A1,c1,rfl,hr1,hb1⟩;have hB1:=hB.call (by simp) hb1;have hN1:=Held.new w1 aj 42) | (refine aO 42 (.tmp 5) (.tmp 9) rfl ?_;refine aF hN1 (aW s0 A1 c1) rfl aaS (dL _ _ _) rfl (.tmp 5) (.tmp 9) rfl rfl rfl ?_))
 refine HK.out _ _ ?_;refine ZG (p:=fun W=>Code.wp _ _ _ _ W) (fun w2 hw2=>?_)
 have hS2:Held w2 w1.heap.size (aW s0 A1 c1) 42:=by rw [hw2];exact hN1.whole (aW s0 A1 c1) rfl
 have hR2:Held w2 w.heap.size ([.string r.game,.int .i64 r.target,.int .i64 r.aY]) 25:=by rw [hw2];exact (Held.others (by have:=hB.bw.size;have:=hb1.size;have:=(hB.bf rfl).lt;omega) _ _ _ ((hB1.bf rfl).alloc _))
 have hb2:Below w1.heap.size w1 w2:=by rw [hw2];exact below_setCells _ (Nat.le_refl _) _ _ _ _ ((Below.refl _ _).alloc (Nat.le_refl _) _)
 have hq2:w2.heap.size=w1.heap.size+1:=by rw [hw2,setCells_size];simp
 have hlt1:w.heap.size<w1.heap.size:=(hB1.bf rfl).lt;have hbw2:Below w.heap.size w w2:=hB1.bw.trans (hb2.mono (by omega));have hr2:bD w2 (fun b=>((S b∧b<w.heap.size)∨w.heap.size+1≤b)∧b≠w1.heap.size) A1 c1 s0.ay:=(bD.more hr1 (fun b hl h=>⟨.inr (by have h:w0.heap.size≤b:=h;have:=(hB.bf rfl).lt;omega),by omega⟩)).below hb2;obtain ⟨B5,NM⟩:∃ q,w1.heap.size=q:=⟨_,rfl⟩;rw [NM] at hS2 hq2 hlt1 hr2;rw [NM];clear hw2 hb2 hB1 hN1 hr1 hb1 hB NM;have hlit:=ZH.lit (e:=42) (D:=B5+1) (Z:=(fun b=>((S b∧b<w.heap.size)∨w.heap.size+1≤b)∧b≠B5)) w2 ⟨s0,A1,c1⟩ (by omega) hr2;have hba:=(Below.refl w2.heap.size w2).alloc (Nat.le_refl _) (.cells (stC ⟨s0,A1,c1⟩).toArray 42)
 have hI0:acg S r (plain l) w B5 0 0 [⟨s0,A1,c1⟩] (some ⟨B5+1,0,none⟩) 1 s0 A1 c1 (w2.alloc (.cells (stC ⟨s0,A1,c1⟩).toArray 42)):=by
  rw [← hq2]
  exact ⟨⟨rfl,fun k hk=>by have hk0:k=0:=(by simp at hk;omega)
                           subst hk0;exact HS0.out.symm⟩,hR2.below hba,hS2.below hba,bD.more ((bD.more hr2 (S':=fun b=>(fun b=>((S b∧b<w.heap.size)∨w.heap.size+1≤b)∧b≠B5) b∧b<w2.heap.size) (fun b hb h=>⟨h,hb⟩)).below hba) (fun b _ h=>⟨h.1,fun e=>by cases e;exact Nat.lt_irrefl _ h.2⟩),hlit,hlt1,HS0.out.symm,VY hbw2 hba⟩
 have aDr:Held w2 B5 [.int .i64 s0.turn,.bool s0.brk,.bool s0.hand,.bool s0.push,.bool s0.pushed,.int .i64 s0.group,.slice A1 s0.ay.length c1,.int .i64 s0.s0,.int .i64 s0.s1,.int .i64 s0.f0,.int .i64 s0.f1,.int .i64 s0.run,.int .i64 s0.aZ,.bool s0.over,.int .i64 s0.bC] 42:=hS2;apply wp_seq_k;intro K hK;have HK:=hide hK;clear hK
 go_wp2_with (first | (refine aN 42 (.tmp 5) rfl ?_;refine aG (aDr) Tryz.underlying42 rfl Zd rfl (.tmp 5) rfl rfl ?_))
 refine HK.out _ _ ?_;refine ZG (p:=fun W=>Code.wp _ _ _ _ W) (fun W0 hW0=>?_)
 have hI:acg S r (plain l) w B5 0 0 [⟨s0,A1,c1⟩] (some ⟨B5+1,0,none⟩) 1 s0 A1 c1 W0:=by rw [hW0];exact hI0
 clear hW0 hI0 hlit hba hR2 hS2 aDr hr2 hbw2 hq2;have HA:=aks.out;apply HA;exact ⟨rfl,rfl,_,_,_,_,_,_,_,rfl,rfl,hI⟩
theorem atE (r:M.Rules) (l:List Sh) (k:Nat):M.TS r (plain l) k=lQ r l k:=by
 unfold M.TS lQ plain
 rw [List.map_take]
noncomputable def aqZ (n:Nat):Code:=dQ n ((Tryz.f59).body.getD .skip)
@[reducible] def aCx (r:M.Rules) (a b:List Sh) (w:World) (F:Value→Value→World→Prop) (n:Nat):Prop:=∀ (z0 z1 z2 z3 z4 z5 z6 z7 z8 z9 z10 z11 z12 z13 kD kK kF z17 kL jQ z20 z21 z22 z23 z24 z25 z26 z27 z28 z29 z30 z31 z32 z33 z34 z35 z36 z37 z38 z39 z40 z41 z42 z43 z44 z45 z46:Value) (W:World),F z7 z8 W→(aqZ n).wp Tryz.prog (bodyPost Tryz.prog Tryz.f59 (fun e w'=>e= .returned (.int .i64 (M.changed r (plain a) (plain b)))∧Below w.heap.size w w')) {tmps:= #[z0,z1,z2,z3,z4,z5,z6,z7,z8,z9,z10,z11,z12,z13,kD,kK,kF,z17,kL,jQ,z20,z21,z22,z23,z24,z25,z26,z27,z28,z29,z30,z31,z32,z33,z34,z35,z36,z37,z38,z39,z40,z41,z42,z43,z44,z45,z46],defers:=[] } W
@[reducible] def azV (r:M.Rules) (a b:List Sh) (w:World):Prop:=aCx r a b w (fun z7 z8 W=>(∃ L A c,z7= .slice A (L:List StE).length c∧StL r (plain a) a.length L∧RdT W (fun _=>True) A c L)∧(∃ L A c,z8= .slice A (L:List StE).length c∧StL r (plain b) b.length L∧RdT W (fun _=>True) A c L)∧Below w.heap.size w W) 2
def chF (r:M.Rules) (a b:List Sh) (n:Nat):Bool:=(M.TS r (plain a) n).eq (M.TS r (plain b) n)
theorem ajv (r:M.Rules) (a b:List Sh):M.changed r (plain a) (plain b)=M.DT (chF r a b) 1 (max a.length b.length):=by unfold M.changed;rw [eF,eF];rfl
theorem aye {r:M.Rules} {l:List Sh} {L:List StE} {A:Option Addr} {c:Nat} {W:World} (hl:StL r (plain l) l.length L) (hr:RdT W (fun _=>True) A c L) (k j:Nat) (hj:j=min k l.length):
 ∃ b o As cs,A=some ⟨b,o,none⟩∧b<W.heap.size∧(∀ W',Below W.heap.size W W'→W'.rangeAt b (o+j*15) (aW (M.TS r (plain l) k) As cs))∧bD W (fun _=>True) As cs (M.TS r (plain l) k).ay:=by
 have hL:=hl.len;obtain ⟨b,o,e,_,hb,hc⟩:=Reads.at_ hr.1 (by omega)
 have hjL:j<L.length:=by omega
 have hg:=hl.get j hjL
 have hs:M.TS r (plain l) j=M.TS r (plain l) k:=by
  unfold M.TS
  rcases Nat.le_total k l.length with h | h
  · rw [hj,Nat.min_eq_left h]
  · rw [hj,Nat.min_eq_right h,List.take_of_length_le (by rw [eF];exact Nat.le_refl _),List.take_of_length_le (by rw [eF];exact h)]
 rw [hs] at hg;have hrg:=ab6 amc hc j hjL;have hb2:=hr.2 _ (List.getElem_mem hjL);rw [hg] at hb2
 have he:stC L[j]=aW (M.TS r (plain l) k) L[j].a L[j].c:=by unfold stC;rw [hg]
 rw [he] at hrg;exact ⟨b,o,_,_,e,hb,fun W' h i v hi=>(h.cell (p:=⟨b,o+j*15+i,none⟩) hb).trans (hrg i v hi),hb2⟩
theorem aGo (r:M.Rules) (a b:List Sh) (w:World) (HN:Hid (a.length≤1000∧b.length≤1000)):azV r a b w:=by
 dsimp only [azV,aCx]
 intros
 rename_i W hf
 dsimp only [aqZ,dQ,Tryz.f59,Option.getD]
 obtain ⟨⟨La,A1,c1,rfl,hla,awt⟩,⟨Lb,B1,d1,rfl,hlb,awC⟩,hbw⟩:=hf;have hLa:=hla.len;have hLb:=hlb.len;rw [hLa,hLb];have hnn:=HN.out;go_wp2
 go_loopw [9] (fun i wr=>∃ k:Nat,k≤max a.length b.length∧i= .int .i64 ((k:Int)+1)∧M.changed r (plain a) (plain b)=M.DT (chF r a b) (k+1) (max a.length b.length - k)∧Below W.heap.size W wr) (fun i _=>max a.length b.length+1 - (intOf i).toNat)
 case atStart=>exact ⟨0,Nat.zero_le _,rfl,ajv r a b,Below.refl _ _⟩
 case round=>
  obtain ⟨k,hk,rfl,hf,hbr⟩:=hrel;have HF:=hide hf;clear hf
  by_cases hlt:k<max a.length b.length
  · have hst:=M.acA (chF r a b) hlt
    obtain ⟨v,hv⟩:∃ v,chF r a b (k+1)=v:=⟨_,rfl⟩
    have hf2:M.changed r (plain a) (plain b)=if v then M.DT (chF r a b) (k+1+1) (max a.length b.length - (k+1)) else ((k+1:Nat):Int):=by rw [← hv];exact HF.out.trans hst
    have HF2:=hide hf2;clear hst hf2 HF;obtain ⟨ja,hja⟩:∃ j,min (k+1) a.length=j:=⟨_,rfl⟩;obtain ⟨jb,hjb⟩:∃ j,min (k+1) b.length=j:=⟨_,rfl⟩
    go_upto_region 3 with (fail)
    go_cut [25] from 16 to 25 (fun v wx=>v= .bool true∧wx=wr)
    case first=>
     by_cases pa:k<a.length
     · have t1:decide (k<a.length)=true:=by simp;omega
       go_wp2;go_meet;exact ⟨rfl,rfl⟩
     · have t1:decide (k<a.length)=false:=by simp;omega
       have t2:decide (k<b.length)=true:=by simp;omega
       go_wp2;go_meet;exact ⟨rfl,rfl⟩
    case rest=>
     obtain ⟨rfl,rfl⟩:=hcut;obtain ⟨ba,oa,Aa,ca,rfl,aDF,aEe,hba⟩:=aye hla awt (k+1) ja (by omega);obtain ⟨bb,ob,Ab,cb,rfl,aDM,aEl,hbb⟩:=aye hlb awC (k+1) jb (by omega);obtain ⟨wr,rfl⟩:∃ q,q=wc:=⟨_,rfl⟩;have hra:=fun W' (h:(fun w':World=>Below wr.heap.size wr w') W')=>aEe W' (hbr.trans (h.mono hbr.size));have hrb:=fun W' (h:(fun w':World=>Below wr.heap.size wr w') W')=>aEl W' (hbr.trans (h.mono hbr.size))
     have m1:min ((k:Int)+1) (a.length:Int)=(ja:Int):=by omega
     have m2:min ((k:Int)+1) (b.length:Int)=(jb:Int):=by omega
     have w1:IntKind.i64.wrap (a.length:Int)=(a.length:Int):=IntWalk.i64_in _ (by omega);have w2:IntKind.i64.wrap (b.length:Int)=(b.length:Int):=IntWalk.i64_in _ (by omega)
     have i0:(0:Int)≤(ja:Int):=by omega
     have i1:(0:Int)≤(jb:Int):=by omega
     have i2:(ja:Int)<(a.length:Int)+1:=by omega
     have i3:(jb:Int)<(b.length:Int)+1:=by omega
     clear aEe aEl hla hlb awt awC hja hjb;obtain ⟨sa,hsa⟩:∃ q,M.TS r (plain a) (k+1)=q:=⟨_,rfl⟩;obtain ⟨sb,hsb⟩:∃ q,M.TS r (plain b) (k+1)=q:=⟨_,rfl⟩
     have hv2:sa.eq sb=v:=by rw [← hsa, ← hsb];exact hv
     rw [hsa] at hra hba;rw [hsb] at hrb hbb;have hsm:=fun W' (h:(fun w':World=>Below wr.heap.size wr w') W')=>axT (fun _=>True) (fun _=>True) sa sb Aa Ab ca cb W' ((hba.below hbr).below h) ((hbb.below hbr).below h);rw [hv2] at hsm;have HSM:=hide hsm;clear hsm hv hv2 hba hbb hsa hsb;go_wp2;refine wp_region_held_drew (S:=(fun w':World=>Below wr.heap.size wr w')) (by kernel_rfl) ?eP (fun hHeld=>?_)
     case eP=>exact (Below.refl _ _).drew
     refine tk 0 ?_;refine tk 1 ?_;refine tk 2 ?_;refine tk 3 ?_;refine tk 4 ?_;refine tk 5 ?_;refine tk 6 ?_;refine Zf 7 hra Tryz.underlying42 ?_;refine tk 8 ?_;refine tk 9 ?_;refine tk 10 ?_;refine tk 11 ?_;refine tk 12 ?_;refine tk 13 ?_;refine tk 14 ?_;refine Zf 15 hrb Tryz.underlying42 ?_;refine tr 16 fun K hK=>?_;go_simp
     (go_at_call 68;refine (HSM.out _ hHeld).mono ?_;rintro e w2 ⟨rfl,hb2⟩)
     refine Zc hK (hHeld.trans (hb2.mono hHeld.size)) fun hHeld=>?_;clear hK K;refine tk 17 ?_;refine wpAnyH_done (by kernel_rfl) ?_ _
     cases v with
     | true=>
       go_wp2
       go_roundw
       case rel=>exact ⟨k+1,by omega,by go_num,HF2.out,hbr.trans (hHeld.mono hbr.size)⟩
       case measure=>simp [intOf];omega
     | false=>
       go_wp2;go_ret;exact ⟨by rw [HF2.out];first | rfl | (push_cast;rfl),hbw.trans ((hbr.trans (hHeld.mono hbr.size)).mono hbw.size)⟩
  · have t1:decide (k<a.length)=false:=by simp;omega
    have t2:decide (k<b.length)=false:=by simp;omega
    have hke:k=max a.length b.length:=by omega
    have hf2:M.changed r (plain a) (plain b)=0:=HF.out.trans (by rw [hke,Nat.sub_self];rfl);have HF2:=hide hf2;clear hf2 hke hlt;go_wp2;go_ret;exact ⟨by rw [HF2.out] <;> rfl,hbw.trans (hbr.mono hbw.size)⟩
noncomputable def agJ (n:Nat):Code:=dQ n ((Tryz.f58).body.getD .skip)
@[reducible] def arT (r:M.Rules) (a b:List Sh) (A B:Option Addr) (c d:Nat) (w:World) (F:Value→Value→Value→Value→Value→Value→Value→World→Prop) (n:Nat):Prop:=∀ (z0 z1 z2 z3 z4 z5 z6 z7 z8 z9 z10 z11 z12 z13 kD kK kF z17 kL jQ z20 z21 z22 z23 z24 z25 z26 z27 z28 z29 z30 z31 z32 z33 z34 z35 z36 z37 z38 z39 z40 z41 z42 z43 z44 z45 z46 z47 z48 z49 z50 z51 z52 z53 z54 z55 z56 z57 z58 z59 z60 z61 z62 z63 z64 z65 z66:Value) (W:World),F z1 z2 z3 z9 z10 z11 z12 W→(agJ n).wp Tryz.prog (bodyPost Tryz.prog Tryz.f58 (fun e w'=>e= .returned (.tuple #[.int .i64 (M.changed r (plain a) (plain b)),.int .i64 0])∧Below w.heap.size w w')) {tmps:= #[z0,z1,z2,z3,z4,z5,z6,z7,z8,z9,z10,z11,z12,z13,kD,kK,kF,z17,kL,jQ,z20,z21,z22,z23,z24,z25,z26,z27,z28,z29,z30,z31,z32,z33,z34,z35,z36,z37,z38,z39,z40,z41,z42,z43,z44,z45,z46,z47,z48,z49,z50,z51,z52,z53,z54,z55,z56,z57,z58,z59,z60,z61,z62,z63,z64,z65,z66],defers:=[] } W
@[reducible] def azO (r:M.Rules) (a b:List Sh) (A B:Option Addr) (c d:Nat) (w:World):Prop:=arT r a b A B c d w (fun z1 z2 z3 _ _ _ _ W=>z1= .slice A a.length c∧z2= .slice B b.length d∧z3=ptr w.heap.size∧Held W w.heap.size ([.string r.game,.int .i64 r.target,.int .i64 r.aY]) 23∧Below w.heap.size w W) 2
@[reducible] def avX (r:M.Rules) (a b:List Sh) (A B:Option Addr) (c d:Nat) (w:World):Prop:=arT r a b A B c d w (fun _ _ z3 z9 z10 _ _ W=>(∃ L A c,z9= .slice A (L:List StE).length c∧L.length=a.length∧RTL r a L∧RdT W (fun b=>True) A c L)∧(∃ L A c,z10= .slice A (L:List StE).length c∧L.length=b.length∧RTL r b L∧RdT W (fun b=>True) A c L)∧z3=ptr w.heap.size∧Held W w.heap.size ([.string r.game,.int .i64 r.target,.int .i64 r.aY]) 23∧Below w.heap.size w W) 3
@[reducible] def av5 (r:M.Rules) (a b:List Sh) (A B:Option Addr) (c d:Nat) (w:World):Prop:=arT r a b A B c d w (fun _ _ _ z9 z10 z11 z12 W=>∃ p q,(∃ L A c,z9= .slice A (L:List StE).length c∧L.length=a.length∧RTL r a L∧RdT W (fun b=>b≠p∧b≠q) A c L)∧(∃ L A c,z10= .slice A (L:List StE).length c∧L.length=b.length∧RTL r b L∧RdT W (fun b=>b≠p∧b≠q) A c L)∧z11=ptr p∧z12=ptr q∧p≠q∧w.heap.size≤p∧w.heap.size≤q∧(∃ As cs,Held W p (aW (M.start r) As cs) 33∧bD W (fun b=>b≠p∧b≠q) As cs (M.start r).ay)∧(∃ As cs,Held W q (aW (M.start r) As cs) 33∧bD W (fun b=>b≠p∧b≠q) As cs (M.start r).ay)∧Below w.heap.size w W) 4
theorem alY {r:M.Rules} {l:List Sh} {L:List StE} {S:Nat→Prop} {A:Option Addr} {c:Nat} {W:World} (hl:L.length=l.length) (hg:RTL r l L) (hr:RdT W S A c L) {k:Nat} (hk:k<l.length):
 ∃ b o As cs,A=some ⟨b,o,none⟩∧S b∧b<W.heap.size∧W.rangeAt b (o+k*15) (aW (M.TS r (plain l) (k+1)) As cs)∧bD W S As cs (M.TS r (plain l) (k+1)).ay:=by
 obtain ⟨b,o,e,hS,hb,hc⟩:=Reads.at_ hr.1 (by omega)
 have hkL:k<L.length:=by omega
 have hs:=(hg k hkL).trans (atE r l (k+1)).symm;have hrg:=ab6 amc hc k hkL;have hb2:=hr.2 _ (List.getElem_mem hkL);rw [hs] at hb2
 have he:stC L[k]=aW (M.TS r (plain l) (k+1)) L[k].a L[k].c:=by unfold stC;rw [hs]
 rw [he] at hrg;exact ⟨b,o,_,_,e,hS,hb,hrg,hb2⟩
theorem akl {r:M.Rules} {l:List Sh} {k:Nat} (hk:¬ k<l.length):M.TS r (plain l) (k+1)=M.TS r (plain l) k:=by
 unfold M.TS
 rw [List.take_of_length_le (by rw [eF];omega),List.take_of_length_le (by rw [eF];omega)]
theorem RdT.turn {X:Nat→Prop} {W W':World} {S:Nat→Prop} {A:Option Addr} {c:Nat} {L:List StE} (h:RdT W S A c L) (ht:Turn X W W') (hX:∀ b,S b→¬ X b):RdT W' S A c L:=
 ⟨Reads.turn h.1 ht hX,fun e he=>Reads.turn (h.2 e he) ht hX⟩
structure ChI (r:M.Rules) (a b:List Sh) (p q k:Nat) (W wr:World):Prop where
 t:Turn (fun b=>b=p∨b=q) W wr
 x:∃ As cs,Held wr p (aW (M.TS r (plain a) k) As cs) 33∧bD wr (fun b=>b≠p∧b≠q) As cs (M.TS r (plain a) k).ay
 y:∃ As cs,Held wr q (aW (M.TS r (plain b) k) As cs) 33∧bD wr (fun b=>b≠p∧b≠q) As cs (M.TS r (plain b) k).ay
theorem aF3 (r:M.Rules) (a b:List Sh) (A B:Option Addr) (c d:Nat) (w:World) (HR:Hid (M.aH r=0∧M.je (plain a)=0∧M.je (plain b)=0)) (HP:Hid (wG w (fun b=>b<w.heap.size) A c a∧wG w (fun b=>b<w.heap.size) B d b)) (HN:Hid (avX r a b A B c d w)):azO r a b A B c d w:=by
 dsimp only [azO,arT]
 intros
 rename_i W hf
 dsimp only [agJ,dQ,Tryz.f58,Option.getD]
 obtain ⟨rfl,rfl,rfl,h3,hbw⟩:=hf;have hsa:=fun W' (h:Below w.heap.size w W')=>afY _ r a A c W' (HP.out.1.below h) HR.out.1 HR.out.2.1;have hsb:=fun W' (h:Below w.heap.size w W')=>afY _ r b B d W' (HP.out.2.below h) HR.out.1 HR.out.2.2;have HSA:=hide hsa;have HSB:=hide hsb;have Vh:∀ W',(fun w':World=>Below W.heap.size W w') W'→W'.rangeAt w.heap.size 0 ([.string r.game,.int .i64 r.target,.int .i64 r.aY]):=fun W' h=>(h3.below h).range;clear hsa hsb;apply wp_seq_k;intro K hK;have HK:=hide hK;clear hK;refine wp_region_held_drew (S:=(fun w':World=>Below W.heap.size W w')) (by kernel_rfl) ?eP (fun hHeld=>?_)
 case eP=>exact (Below.refl _ _).drew
 refine Zf 0 Vh Tryz.underlying23 ?_;refine tk 1 ?_;refine Zf 3 Vh Tryz.underlying23 ?_;refine tk 4 ?_;refine tr 2 fun K hK=>?_;go_simp
 (go_at_call 107;refine (HSA.out _ (hbw.trans (hHeld.mono hbw.size))).mono ?_;rintro e wa ⟨La,A1,c1,rfl,aD0,hga,hra,hba⟩;have hla:=hide aD0;clear aD0)
 refine Zc hK (hHeld.trans (hba.mono hHeld.size)) fun hHeld=>?_;clear hK K;refine tr 5 fun K hK=>?_;go_simp
 (go_at_call 107;refine (HSB.out _ (hbw.trans (hHeld.mono hbw.size))).mono ?_;rintro e wb ⟨Lb,A2,c2,rfl,aD7,hgb,hrb,hbb⟩;have hlb:=hide aD7;clear aD7)
 refine Zc hK (hHeld.trans (hbb.mono hHeld.size)) fun hHeld=>?_;clear hK K;refine tk 6 ?_;refine tk 7 ?_;refine wpAnyH_done (by kernel_rfl) ?_ _;refine HK.out _ _ ?_;apply HN.out;exact ⟨⟨La,A1,c1,rfl,hla.out,hga,(hra.below hbb).more (fun _ _ _=>trivial)⟩,⟨Lb,A2,c2,rfl,hlb.out,hgb,hrb.more (fun _ _ _=>trivial)⟩,rfl,h3.below hHeld,hbw.trans (hHeld.mono hbw.size)⟩
theorem aGa (r:M.Rules) (a b:List Sh) (A B:Option Addr) (c d:Nat) (w:World) (HR:Hid (M.aH r=0∧M.je (plain a)=0∧M.je (plain b)=0)) (HP:Hid (wG w (fun b=>b<w.heap.size) A c a∧wG w (fun b=>b<w.heap.size) B d b)) (HN:Hid (av5 r a b A B c d w)):avX r a b A B c d w:=by
 dsimp only [avX,arT]
 intro z0 z1 z2 _ z4 z5 z6 z7 z8 z9 z10 _ _ z13 kD kK kF z17 kL jQ z20 z21 z22 z23 z24 z25 z26 z27 z28 z29 _ _ _ _ _ _ z36 z37 z38 z39 z40 z41 z42 z43 z44 z45 z46 z47 z48 z49 z50 z51 z52 z53 z54 z55 z56 z57 z58 z59 z60 z61 z62 z63 z64 z65 z66 W hf
 dsimp only [agJ,dQ,Tryz.f58,Option.getD]
 obtain ⟨h9,h10,rfl,h3,hbw⟩:=hf;have Vh:∀ W',(fun w':World=>Below W.heap.size W w') W'→W'.rangeAt w.heap.size 0 ([.string r.game,.int .i64 r.target,.int .i64 r.aY]):=fun W' h=>(h3.below h).range;have hfs:=amO;apply wp_seq_k;intro K hK;have HK:=hide hK;clear hK;refine wp_region_held_drew (S:=(fun w':World=>Below W.heap.size W w')) (by kernel_rfl) ?jw (fun hHeld=>?_)
 case jw=>exact (Below.refl _ _).drew
 refine ajJ (fun f hf=>?_)
 have J:∀ (p q:Nat) (A1 A2:Option Addr) (c1 c2:Nat) (wx:World),Held wx p aj 33→Held wx q aj 33→p≠q→W.heap.size≤p→W.heap.size≤q→(fun w':World=>Below W.heap.size W w') wx→
  bD wx (fun b=>b≠p∧b≠q) A1 c1 (M.start r).ay→bD wx (fun b=>b≠p∧b≠q) A2 c2 (M.start r).ay→f 2 #[true,true,true,true,true,true,true,true,false,false] {tmps:= #[z0,z1,z2,ptr w.heap.size,z4,z5,z6,z7,z8,z9,z10,ptr p,ptr q,z13,kD,kK,kF,z17,kL,jQ,z20,z21,z22,z23,z24,z25,z26,z27,z28,z29,.agg ([.string r.game,.int .i64 r.target,.int .i64 r.aY]:List Value).toArray,dH r (M.start r) A1 c1,.agg (aW (M.start r) A1 c1).toArray,.agg ([.string r.game,.int .i64 r.target,.int .i64 r.aY]:List Value).toArray,dH r (M.start r) A2 c2,.agg (aW (M.start r) A2 c2).toArray,z36,z37,z38,z39,z40,z41,z42,z43,z44,z45,z46,z47,z48,z49,z50,z51,z52,z53,z54,z55,z56,z57,z58,z59,z60,z61,z62,z63,z64,z65,z66],defers:=[] } wx:=by
  intro p q A1 A2 c1 c2 wx gp gq npq lp lq hHeld hra hrb;subst hf;have hHeld:(fun w':World=>Below W.heap.size W w') (wx.setCells p 0 (aW (M.start r) A1 c1)):=below_setCells _ lp _ _ _ _ hHeld;refine wpAnyH_ready (rs:=[8]) (by kernel_rfl) (by simp) ?_;refine ZY (o:=_) (ga rfl) (by kernel_rfl) gp (aW (M.start r) A1 c1) rfl bW (dL _ _ _) (.tmp 11) (.tmp 32) rfl rfl rfl hHeld ?_
  try simp only [Act.put,la,lz,ls]
  have hHeld:(fun w':World=>Below W.heap.size W w') ((wx.setCells p 0 (aW (M.start r) A1 c1)).setCells q 0 (aW (M.start r) A2 c2)):=below_setCells _ lq _ _ _ _ hHeld;refine wpAnyH_ready (rs:=[9]) (by kernel_rfl) (by simp) ?_;refine ZY (o:=_) (ga rfl) (by kernel_rfl) (Held.others npq.symm _ _ _ gq) (aW (M.start r) A2 c2) rfl bW (dL _ _ _) (.tmp 12) (.tmp 35) rfl rfl rfl hHeld ?_
  try simp only [Act.put,la,lz,ls]
  refine wpAnyH_done (by kernel_rfl) ?_ _;refine HK.out _ _ ?_;apply HN.out;have hb0:Below W.heap.size W ((wx.setCells p 0 (aW (M.start r) A1 c1)).setCells q 0 (aW (M.start r) A2 c2)):=hHeld;refine ⟨p,q,?_,?_,rfl,rfl,npq,by have:=hbw.size;omega,by have:=hbw.size;omega,⟨A1,c1,Held.others npq _ _ _ (gp.whole _ rfl),bD.sets (fun h=>h.2 rfl) _ _ _ (bD.sets (fun h=>h.1 rfl) _ _ _ hra)⟩,⟨A2,c2,(Held.others npq.symm _ _ _ gq).whole _ rfl,bD.sets (fun h=>h.2 rfl) _ _ _ (bD.sets (fun h=>h.1 rfl) _ _ _ hrb)⟩,VY hbw hb0⟩
  · obtain ⟨L,A0,c0,e,hl,hg,hr⟩:=h9
    exact ⟨L,A0,c0,e,hl,hg,(hr.more (S':=fun b=>b<W.heap.size) (fun b hb _=>hb)).below hb0 |>.more (fun b _ h=>by constructor <;> omega)⟩
  · obtain ⟨L,A0,c0,e,hl,hg,hr⟩:=h10
    exact ⟨L,A0,c0,e,hl,hg,(hr.more (S':=fun b=>b<W.heap.size) (fun b hb _=>hb)).below hb0 |>.more (fun b _ h=>by constructor <;> omega)⟩
 rw [hf] at J;subst hf;refine Zf 0 Vh Tryz.underlying23 ?_;refine Zf 3 Vh Tryz.underlying23 ?_;refine agQ 1 6 7 (fun K hK=>?_) (fun K hK=>?_) fun K hK=>?_
 · go_simp
   (go_at_call 64;refine (BJ r _).mono ?_;rintro e wa ⟨A1,c1,rfl,hra,hba⟩)
   refine Zc hK (hHeld.trans (hba.mono hHeld.size)) fun hHeld=>?_;clear hK K;refine tk 2 ?_;refine agQ 4 6 7 (fun K hK=>?_) (fun K hK=>?_) fun K hK=>?_
   · go_simp
     (go_at_call 64;refine (BJ r _).mono ?_;rintro e wb ⟨A2,c2,rfl,hrb,hbb⟩)
     refine Zc hK (hHeld.trans (hbb.mono hHeld.size)) fun hHeld=>?_;clear hK K;refine tk 5 ?_;refine ZN 6 7 (fun K hK=>?_) fun K hK=>?_
     · go_simp
       refine Zc hK (Below.alloc hHeld hHeld.size _) fun hHeld=>?_;clear hK K;refine tr 7 fun K hK=>?_;go_simp;refine Zc hK (Below.alloc hHeld hHeld.size _) fun hHeld=>?_;clear hK K;have hqa:=hba.size;have hqb:=hbb.size
       (try simp at hqa hqb)
       exact J _ _ A1 A2 c1 c2 _ ((Held.newAt _ aj 33 (by first | rfl | simp)).alloc _) (Held.newAt _ aj 33 (by first | rfl | simp)) (by (try simp);(try omega)) (by (try simp);(try omega)) (by (try simp);(try omega)) hHeld ((((Reads.more hra (fun b hl h=>by (try simp at h hl⊢)<;>omega)).below hbb).alloc _).alloc _) (((Reads.more hrb (fun b hl h=>by (try simp at h hl⊢)<;>omega)).alloc _).alloc _)
     · go_simp
       refine Zc hK (Below.alloc hHeld hHeld.size _) fun hHeld=>?_;clear hK K;refine tr 6 fun K hK=>?_;go_simp;refine Zc hK (Below.alloc hHeld hHeld.size _) fun hHeld=>?_;clear hK K;have hqa:=hba.size;have hqb:=hbb.size
       (try simp at hqa hqb)
       exact J _ _ A1 A2 c1 c2 _ (Held.newAt _ aj 33 (by first | rfl | simp)) ((Held.newAt _ aj 33 (by first | rfl | simp)).alloc _) (by (try simp);(try omega)) (by (try simp);(try omega)) (by (try simp);(try omega)) hHeld ((((Reads.more hra (fun b hl h=>by (try simp at h hl⊢)<;>omega)).below hbb).alloc _).alloc _) (((Reads.more hrb (fun b hl h=>by (try simp at h hl⊢)<;>omega)).alloc _).alloc _)
   · go_simp
     refine Zc hK (Below.alloc hHeld hHeld.size _) fun hHeld=>?_;clear hK K;refine ZN 4 7 (fun K hK=>?_) fun K hK=>?_
     · go_simp
       (go_at_call 64;refine (BJ r _).mono ?_;rintro e wb ⟨A2,c2,rfl,hrb,hbb⟩)
       refine Zc hK (hHeld.trans (hbb.mono hHeld.size)) fun hHeld=>?_;clear hK K;refine tk 5 ?_;refine tr 7 fun K hK=>?_;go_simp;refine Zc hK (Below.alloc hHeld hHeld.size _) fun hHeld=>?_;clear hK K;have hqa:=hba.size;have hqb:=hbb.size
       (try simp at hqa hqb)
       exact J _ _ A1 A2 c1 c2 _ (((Held.newAt _ aj 33 (by first | rfl | simp)).below hbb).alloc _) (Held.newAt _ aj 33 (by first | rfl | simp)) (by (try simp);(try omega)) (by (try simp);(try omega)) (by (try simp);(try omega)) hHeld ((((Reads.more hra (fun b hl h=>by (try simp at h hl⊢)<;>omega)).alloc _).below hbb).alloc _) ((Reads.more hrb (fun b hl h=>by (try simp at h hl⊢)<;>omega)).alloc _)
     · go_simp
       refine Zc hK (Below.alloc hHeld hHeld.size _) fun hHeld=>?_;clear hK K;refine tr 4 fun K hK=>?_;go_simp
       (go_at_call 64;refine (BJ r _).mono ?_;rintro e wb ⟨A2,c2,rfl,hrb,hbb⟩)
       refine Zc hK (hHeld.trans (hbb.mono hHeld.size)) fun hHeld=>?_;clear hK K;refine tk 5 ?_;have hqa:=hba.size;have hqb:=hbb.size
       (try simp at hqa hqb)
       exact J _ _ A1 A2 c1 c2 _ (((Held.newAt _ aj 33 (by first | rfl | simp)).alloc _).below hbb) ((Held.newAt _ aj 33 (by first | rfl | simp)).below hbb) (by (try simp);(try omega)) (by (try simp);(try omega)) (by (try simp);(try omega)) hHeld ((((Reads.more hra (fun b hl h=>by (try simp at h hl⊢)<;>omega)).alloc _).alloc _).below hbb) (Reads.more hrb (fun b hl h=>by (try simp at h hl⊢)<;>omega))
   · go_simp
     refine Zc hK (Below.alloc hHeld hHeld.size _) fun hHeld=>?_;clear hK K;refine ZN 4 6 (fun K hK=>?_) fun K hK=>?_
     · go_simp
       (go_at_call 64;refine (BJ r _).mono ?_;rintro e wb ⟨A2,c2,rfl,hrb,hbb⟩)
       refine Zc hK (hHeld.trans (hbb.mono hHeld.size)) fun hHeld=>?_;clear hK K;refine tk 5 ?_;refine tr 6 fun K hK=>?_;go_simp;refine Zc hK (Below.alloc hHeld hHeld.size _) fun hHeld=>?_;clear hK K;have hqa:=hba.size;have hqb:=hbb.size
       (try simp at hqa hqb)
       exact J _ _ A1 A2 c1 c2 _ (Held.newAt _ aj 33 (by first | rfl | simp)) (((Held.newAt _ aj 33 (by first | rfl | simp)).below hbb).alloc _) (by (try simp);(try omega)) (by (try simp);(try omega)) (by (try simp);(try omega)) hHeld ((((Reads.more hra (fun b hl h=>by (try simp at h hl⊢)<;>omega)).alloc _).below hbb).alloc _) ((Reads.more hrb (fun b hl h=>by (try simp at h hl⊢)<;>omega)).alloc _)
     · go_simp
       refine Zc hK (Below.alloc hHeld hHeld.size _) fun hHeld=>?_;clear hK K;refine tr 4 fun K hK=>?_;go_simp
       (go_at_call 64;refine (BJ r _).mono ?_;rintro e wb ⟨A2,c2,rfl,hrb,hbb⟩)
       refine Zc hK (hHeld.trans (hbb.mono hHeld.size)) fun hHeld=>?_;clear hK K;refine tk 5 ?_;have hqa:=hba.size;have hqb:=hbb.size
       (try simp at hqa hqb)
       exact J _ _ A1 A2 c1 c2 _ ((Held.newAt _ aj 33 (by first | rfl | simp)).below hbb) (((Held.newAt _ aj 33 (by first | rfl | simp)).alloc _).below hbb) (by (try simp);(try omega)) (by (try simp);(try omega)) (by (try simp);(try omega)) hHeld ((((Reads.more hra (fun b hl h=>by (try simp at h hl⊢)<;>omega)).alloc _).alloc _).below hbb) (Reads.more hrb (fun b hl h=>by (try simp at h hl⊢)<;>omega))
 · go_simp
   refine Zc hK (Below.alloc hHeld hHeld.size _) fun hHeld=>?_;clear hK K;refine ZN 1 7 (fun K hK=>?_) fun K hK=>?_
   · go_simp
     (go_at_call 64;refine (BJ r _).mono ?_;rintro e wa ⟨A1,c1,rfl,hra,hba⟩)
     refine Zc hK (hHeld.trans (hba.mono hHeld.size)) fun hHeld=>?_;clear hK K;refine tk 2 ?_;refine ZN 4 7 (fun K hK=>?_) fun K hK=>?_
     · go_simp
       (go_at_call 64;refine (BJ r _).mono ?_;rintro e wb ⟨A2,c2,rfl,hrb,hbb⟩)
       refine Zc hK (hHeld.trans (hbb.mono hHeld.size)) fun hHeld=>?_;clear hK K;refine tk 5 ?_;refine tr 7 fun K hK=>?_;go_simp;refine Zc hK (Below.alloc hHeld hHeld.size _) fun hHeld=>?_;clear hK K;have hqa:=hba.size;have hqb:=hbb.size
       (try simp at hqa hqb)
       exact J _ _ A1 A2 c1 c2 _ ((((Held.newAt _ aj 33 (by first | rfl | simp)).drew.below hba).below hbb).alloc _) (Held.newAt _ aj 33 (by first | rfl | simp)) (by (try simp);(try omega)) (by (try simp);(try omega)) (by (try simp);(try omega)) hHeld (((Reads.more hra (fun b hl h=>by (try simp at h hl⊢)<;>omega)).below hbb).alloc _) ((Reads.more hrb (fun b hl h=>by (try simp at h hl⊢)<;>omega)).alloc _)
     · go_simp
       refine Zc hK (Below.alloc hHeld hHeld.size _) fun hHeld=>?_;clear hK K;refine tr 4 fun K hK=>?_;go_simp
       (go_at_call 64;refine (BJ r _).mono ?_;rintro e wb ⟨A2,c2,rfl,hrb,hbb⟩)
       refine Zc hK (hHeld.trans (hbb.mono hHeld.size)) fun hHeld=>?_;clear hK K;refine tk 5 ?_;have hqa:=hba.size;have hqb:=hbb.size
       (try simp at hqa hqb)
       exact J _ _ A1 A2 c1 c2 _ ((((Held.newAt _ aj 33 (by first | rfl | simp)).drew.below hba).alloc _).below hbb) ((Held.newAt _ aj 33 (by first | rfl | simp)).below hbb) (by (try simp);(try omega)) (by (try simp);(try omega)) (by (try simp);(try omega)) hHeld (((Reads.more hra (fun b hl h=>by (try simp at h hl⊢)<;>omega)).alloc _).below hbb) (Reads.more hrb (fun b hl h=>by (try simp at h hl⊢)<;>omega))
   · go_simp
     refine Zc hK (Below.alloc hHeld hHeld.size _) fun hHeld=>?_;clear hK K;refine tr 1 fun K hK=>?_;go_simp
     (go_at_call 64;refine (BJ r _).mono ?_;rintro e wa ⟨A1,c1,rfl,hra,hba⟩)
     refine Zc hK (hHeld.trans (hba.mono hHeld.size)) fun hHeld=>?_;clear hK K;refine tk 2 ?_;refine tr 4 fun K hK=>?_;go_simp
     (go_at_call 64;refine (BJ r _).mono ?_;rintro e wb ⟨A2,c2,rfl,hrb,hbb⟩)
     refine Zc hK (hHeld.trans (hbb.mono hHeld.size)) fun hHeld=>?_;clear hK K;refine tk 5 ?_;have hqa:=hba.size;have hqb:=hbb.size
     (try simp at hqa hqb)
     exact J _ _ A1 A2 c1 c2 _ ((((Held.newAt _ aj 33 (by first | rfl | simp)).alloc _).drew.below hba).below hbb) (((Held.newAt _ aj 33 (by first | rfl | simp)).drew.below hba).below hbb) (by (try simp);(try omega)) (by (try simp);(try omega)) (by (try simp);(try omega)) hHeld ((Reads.more hra (fun b hl h=>by (try simp at h hl⊢)<;>omega)).below hbb) (Reads.more hrb (fun b hl h=>by (try simp at h hl⊢)<;>omega))
 · go_simp
   refine Zc hK (Below.alloc hHeld hHeld.size _) fun hHeld=>?_;clear hK K;refine ZN 1 6 (fun K hK=>?_) fun K hK=>?_
   · go_simp
     (go_at_call 64;refine (BJ r _).mono ?_;rintro e wa ⟨A1,c1,rfl,hra,hba⟩)
     refine Zc hK (hHeld.trans (hba.mono hHeld.size)) fun hHeld=>?_;clear hK K;refine tk 2 ?_;refine ZN 4 6 (fun K hK=>?_) fun K hK=>?_
     · go_simp
       (go_at_call 64;refine (BJ r _).mono ?_;rintro e wb ⟨A2,c2,rfl,hrb,hbb⟩)
       refine Zc hK (hHeld.trans (hbb.mono hHeld.size)) fun hHeld=>?_;clear hK K;refine tk 5 ?_;refine tr 6 fun K hK=>?_;go_simp;refine Zc hK (Below.alloc hHeld hHeld.size _) fun hHeld=>?_;clear hK K;have hqa:=hba.size;have hqb:=hbb.size
       (try simp at hqa hqb)
       exact J _ _ A1 A2 c1 c2 _ (Held.newAt _ aj 33 (by first | rfl | simp)) ((((Held.newAt _ aj 33 (by first | rfl | simp)).drew.below hba).below hbb).alloc _) (by (try simp);(try omega)) (by (try simp);(try omega)) (by (try simp);(try omega)) hHeld (((Reads.more hra (fun b hl h=>by (try simp at h hl⊢)<;>omega)).below hbb).alloc _) ((Reads.more hrb (fun b hl h=>by (try simp at h hl⊢)<;>omega)).alloc _)
     · go_simp
       refine Zc hK (Below.alloc hHeld hHeld.size _) fun hHeld=>?_;clear hK K;refine tr 4 fun K hK=>?_;go_simp
       (go_at_call 64;refine (BJ r _).mono ?_;rintro e wb ⟨A2,c2,rfl,hrb,hbb⟩)
       refine Zc hK (hHeld.trans (hbb.mono hHeld.size)) fun hHeld=>?_;clear hK K;refine tk 5 ?_;have hqa:=hba.size;have hqb:=hbb.size
       (try simp at hqa hqb)
       exact J _ _ A1 A2 c1 c2 _ ((Held.newAt _ aj 33 (by first | rfl | simp)).below hbb) ((((Held.newAt _ aj 33 (by first | rfl | simp)).drew.below hba).alloc _).below hbb) (by (try simp);(try omega)) (by (try simp);(try omega)) (by (try simp);(try omega)) hHeld (((Reads.more hra (fun b hl h=>by (try simp at h hl⊢)<;>omega)).alloc _).below hbb) (Reads.more hrb (fun b hl h=>by (try simp at h hl⊢)<;>omega))
   · go_simp
     refine Zc hK (Below.alloc hHeld hHeld.size _) fun hHeld=>?_;clear hK K;refine tr 1 fun K hK=>?_;go_simp
     (go_at_call 64;refine (BJ r _).mono ?_;rintro e wa ⟨A1,c1,rfl,hra,hba⟩)
     refine Zc hK (hHeld.trans (hba.mono hHeld.size)) fun hHeld=>?_;clear hK K;refine tk 2 ?_;refine tr 4 fun K hK=>?_;go_simp
     (go_at_call 64;refine (BJ r _).mono ?_;rintro e wb ⟨A2,c2,rfl,hrb,hbb⟩)
     refine Zc hK (hHeld.trans (hbb.mono hHeld.size)) fun hHeld=>?_;clear hK K;refine tk 5 ?_;have hqa:=hba.size;have hqb:=hbb.size
     (try simp at hqa hqb)
     exact J _ _ A1 A2 c1 c2 _ (((Held.newAt _ aj 33 (by first | rfl | simp)).drew.below hba).below hbb) ((((Held.newAt _ aj 33 (by first | rfl | simp)).alloc _).drew.below hba).below hbb) (by (try simp);(try omega)) (by (try simp);(try omega)) (by (try simp);(try omega)) hHeld ((Reads.more hra (fun b hl h=>by (try simp at h hl⊢)<;>omega)).below hbb) (Reads.more hrb (fun b hl h=>by (try simp at h hl⊢)<;>omega))
theorem aGh (r:M.Rules) (a b:List Sh) (A B:Option Addr) (c d:Nat) (w:World) (HR:Hid (M.aH r=0∧M.je (plain a)=0∧M.je (plain b)=0)) (HP:Hid (wG w (fun b=>b<w.heap.size) A c a∧wG w (fun b=>b<w.heap.size) B d b)):av5 r a b A B c d w:=by
 dsimp only [av5,arT]
 intros
 rename_i W hf
 dsimp only [agJ,dQ,Tryz.f58,Option.getD]
 obtain ⟨p,q,⟨La,A1,c1,rfl,hla,hga,awt⟩,⟨Lb,B1,d1,rfl,hlb,hgb,awC⟩,rfl,rfl,npq,lp,lq,hX0,hY0,hbw⟩:=hf;rw [hla,hlb];obtain ⟨m,hm⟩:∃ m,max a.length b.length=m:=⟨_,rfl⟩
 have hmx:max (a.length:Int) (b.length:Int)=(m:Int):=by omega
 have hma:a.length≤m∧b.length≤m∧(m=a.length∨m=b.length):=by omega
 have hck:=HR.out;have l1:=((M.Zt _).1 hck.2.1).1;have l2:=((M.Zt _).1 hck.2.2).1;rw [eF] at l1 l2;have HLA:=hide (And.intro hla hlb);have hch:=ajv r a b;rw [hm] at hch;have HCH:=hide hch
 have hX:∀ b:Nat,(b≠p∧b≠q)→¬ (b=p∨b=q):=fun b h=>by rintro (e | e);exact h.1 e;exact h.2 e
 have hXB:∀ b:Nat,(b=p∨b=q)→w.heap.size≤b:=fun b h=>by rcases h with rfl | rfl <;> assumption
 have HX:=hide (And.intro hX hXB);clear hla hlb hm hch hck hX hXB;apply wp_seq_k;intro K hK;have HK:=hide hK;clear hK;apply wp_seq_k;intro K2 hK2;have PD:=hide hK2;clear hK2;go_wp2;refine PD.out _ _ ?_;clear hmx;go_wp2
 go_loopw [41] (fun i wr=>∃ k:Nat,k≤m∧i= .int .i64 k∧M.changed r (plain a) (plain b)=M.DT (chF r a b) (k+1) (m - k)∧ChI r a b p q k W wr) (fun i _=>m - (intOf i).toNat)
 case atStart=>exact ⟨0,Nat.zero_le _,rfl,HCH.out,Turn.refl _ _,hX0,hY0⟩
 case round=>
  obtain ⟨k,hk,rfl,hf,hI⟩:=hrel;have HF:=hide hf;clear hf hX0 hY0
  by_cases hlt:k<m
  · have hst:=M.acA (chF r a b) hlt
    obtain ⟨v,hv⟩:∃ v,chF r a b (k+1)=v:=⟨_,rfl⟩
    have hf2:M.changed r (plain a) (plain b)=if v then M.DT (chF r a b) (k+1+1) (m - (k+1)) else ((k+1:Nat):Int):=by rw [← hv];exact HF.out.trans hst
    have HF2:=hide hf2;obtain ⟨As,cs,hp,hpr⟩:=hI.x;obtain ⟨At,ct,hq,hqr⟩:=hI.y;obtain ⟨hla,hlb⟩:=HLA.out;obtain ⟨hX,hXB⟩:=HX.out;clear hst hf2 HF
    by_cases pa:k<a.length
    · by_cases pb:k<b.length
      · obtain ⟨ba,oa,Aa,ca,rfl,hSa,aDF,hra,hba⟩:=alY hla hga (awt.turn hI.t hX) pa
        obtain ⟨bb,ob,Ab,cb,rfl,hSb,aDM,hrb,hbb⟩:=alY hlb hgb (awC.turn hI.t hX) pb;obtain ⟨sa,hsa⟩:∃ q,M.TS r (plain a) (k+1)=q:=⟨_,rfl⟩;obtain ⟨sb,hsb⟩:∃ q,M.TS r (plain b) (k+1)=q:=⟨_,rfl⟩
        have hv2:sa.eq sb=v:=by rw [← hsa, ← hsb];exact hv
        rw [hsa] at hra hba;rw [hsb] at hrb hbb;have aBK:(wr.setCells p 0 (aW sa Aa ca)).rangeAt bb (ob+k*15) (aW sb Ab cb):=fun j v hj=>(kN _ _ _ _ hSb.1).trans (hrb j v hj);have hq1:Held (wr.setCells p 0 (aW sa Aa ca)) q (aW (M.TS r (plain b) k) At ct) 33:=Held.others npq.symm _ _ _ hq
        have t1:decide (k<a.length)=true:=by simp;omega
        have t2:decide (k<b.length)=true:=by simp;omega
        have u1:((k:Int)<(a.length:Int)):=by omega
        have u2:((k:Int)<(b.length:Int)):=by omega
        have i1:(0:Int)≤(k:Int):=by omega
        have i2:(k:Int)<(m:Int):=by omega
        have HSB:=hide (And.intro hsa hsb);clear hsa hsb hv pa pb
        go_upto_region 13 with (first | (refine aN 33 (.tmp 50) rfl ?_;refine jh (g:=ba) (o:=oa+k*15) hra Tryz.underlying33 rfl bW rfl (.tmp 50) rfl rfl ?_) | (refine aO 33 (.tmp 11) (.tmp 51) rfl ?_;refine aF hp (aW sa Aa ca) rfl bW (dL _ _ _) rfl (.tmp 11) (.tmp 51) rfl rfl rfl ?_) | (refine aN 33 (.tmp 58) rfl ?_;refine jh (g:=bb) (o:=ob+k*15) aBK Tryz.underlying33 rfl bW rfl (.tmp 58) rfl rfl ?_) | (refine aO 33 (.tmp 12) (.tmp 59) rfl ?_;refine aF hq1 (aW sb Ab cb) rfl bW (dL _ _ _) rfl (.tmp 12) (.tmp 59) rfl rfl rfl ?_))
        refine acH (p:=fun W=>Code.wp _ _ _ _ W) (fun w2 hw2=>?_)
        have hP2:Held w2 p (aW sa Aa ca) 33:=by rw [hw2];exact Held.others npq _ _ _ (hp.whole _ rfl)
        have hQ2:Held w2 q (aW sb Ab cb) 33:=by rw [hw2];exact hq1.whole _ rfl
        have rP2:bD w2 (fun b=>b≠p∧b≠q) Aa ca sa.ay:=by rw [hw2];exact (bD.sets (fun h=>h.2 rfl) _ _ _ (bD.sets (fun h=>h.1 rfl) _ _ _ hba))
        have rQ2:bD w2 (fun b=>b≠p∧b≠q) Ab cb sb.ay:=by rw [hw2];exact (bD.sets (fun h=>h.2 rfl) _ _ _ (bD.sets (fun h=>h.1 rfl) _ _ _ hbb))
        have T2:Turn (fun b=>b=p∨b=q) W w2:=by rw [hw2];exact ((hI.t.trans (l7 (X:=fun b=>b=p∨b=q) (.inl rfl) _ _) (fun b h=> .inl h)).trans (l7 (X:=fun b=>b=p∨b=q) (.inr rfl) _ _) (fun b h=> .inl h))
        have hsm:=afp _ _ sa sb Aa Ab ca cb w2 rP2 rQ2;rw [hv2] at hsm;have HSM:=hide hsm;clear hsm hv2 hw2 hp hq hpr hqr hI
        cases v with
        | true=>
          go_wp2_with (first | (refine aN 33 (.tmp 11) rfl ?_;refine aG (hP2) Tryz.underlying33 rfl bW rfl (.tmp 11) rfl rfl ?_) | (refine aN 33 (.tmp 12) rfl ?_;refine aG (hQ2) Tryz.underlying33 rfl bW rfl (.tmp 12) rfl rfl ?_) | (go_at_call 108;refine HSM.out.mono ?_;rintro e w3 ⟨rfl,hb3⟩;dsimp only))
          go_roundw
          case rel=>exact ⟨k+1,by omega,by go_num,HF2.out,T2.trans (X':=fun _=>False) (Turn.of_below hb3) (fun b h=>h.elim),⟨_,_,by rw [HSB.out.1];exact hP2.below hb3,by rw [HSB.out.1];exact rP2.below hb3⟩,⟨_,_,by rw [HSB.out.2];exact hQ2.below hb3,by rw [HSB.out.2];exact rQ2.below hb3⟩⟩
          case measure=>simp [intOf];omega
        | false=>
          go_wp2_with (first | (refine aN 33 (.tmp 11) rfl ?_;refine aG (hP2) Tryz.underlying33 rfl bW rfl (.tmp 11) rfl rfl ?_) | (refine aN 33 (.tmp 12) rfl ?_;refine aG (hQ2) Tryz.underlying33 rfl bW rfl (.tmp 12) rfl rfl ?_) | (go_at_call 108;refine HSM.out.mono ?_;rintro e w3 ⟨rfl,hb3⟩;dsimp only))
          go_ret2;exact ⟨by rw [HF2.out] <;> first | rfl | (push_cast;rfl),(kS hbw T2 hXB hbw.size).trans (hb3.mono (by have:=hbw.size;have:=T2.size;omega))⟩
      · obtain ⟨ba,oa,Aa,ca,rfl,hSa,aDF,hra,hba⟩:=alY hla hga (awt.turn hI.t hX) pa
        rw [← akl pb] at hq hqr;obtain ⟨sa,hsa⟩:∃ q,M.TS r (plain a) (k+1)=q:=⟨_,rfl⟩;obtain ⟨sb,hsb⟩:∃ q,M.TS r (plain b) (k+1)=q:=⟨_,rfl⟩
        have hv2:sa.eq sb=v:=by rw [← hsa, ← hsb];exact hv
        rw [hsa] at hra hba;rw [hsb] at hq hqr
        have t1:decide (k<a.length)=true:=by simp;omega
        have t2:decide (k<b.length)=false:=by simp;omega
        have u1:((k:Int)<(a.length:Int)):=by omega
        have u2:¬ ((k:Int)<(b.length:Int)):=by omega
        have i1:(0:Int)≤(k:Int):=by omega
        have i2:(k:Int)<(m:Int):=by omega
        have HSB:=hide (And.intro hsa hsb);clear hsa hsb hv pa pb
        go_upto_region 13 with (first | (refine aN 33 (.tmp 50) rfl ?_;refine jh (g:=ba) (o:=oa+k*15) hra Tryz.underlying33 rfl bW rfl (.tmp 50) rfl rfl ?_) | (refine aO 33 (.tmp 11) (.tmp 51) rfl ?_;refine aF hp (aW sa Aa ca) rfl bW (dL _ _ _) rfl (.tmp 11) (.tmp 51) rfl rfl rfl ?_))
        refine acH (p:=fun W=>Code.wp _ _ _ _ W) (fun w2 hw2=>?_)
        have hP2:Held w2 p (aW sa Aa ca) 33:=by rw [hw2];exact hp.whole _ rfl
        have hQ2:Held w2 q (aW sb At ct) 33:=by rw [hw2];exact Held.others npq.symm _ _ _ hq
        have rP2:bD w2 (fun b=>b≠p∧b≠q) Aa ca sa.ay:=by rw [hw2];exact (bD.sets (fun h=>h.1 rfl) _ _ _ hba)
        have rQ2:bD w2 (fun b=>b≠p∧b≠q) At ct sb.ay:=by rw [hw2];exact (bD.sets (fun h=>h.1 rfl) _ _ _ hqr)
        have T2:Turn (fun b=>b=p∨b=q) W w2:=by rw [hw2];exact (hI.t.trans (l7 (X:=fun b=>b=p∨b=q) (.inl rfl) _ _) (fun b h=> .inl h))
        have hsm:=afp _ _ sa sb Aa At ca ct w2 rP2 rQ2;rw [hv2] at hsm;have HSM:=hide hsm;clear hsm hv2 hw2 hp hq hpr hqr hI
        cases v with
        | true=>
          go_wp2_with (first | (refine aN 33 (.tmp 11) rfl ?_;refine aG (hP2) Tryz.underlying33 rfl bW rfl (.tmp 11) rfl rfl ?_) | (refine aN 33 (.tmp 12) rfl ?_;refine aG (hQ2) Tryz.underlying33 rfl bW rfl (.tmp 12) rfl rfl ?_) | (go_at_call 108;refine HSM.out.mono ?_;rintro e w3 ⟨rfl,hb3⟩;dsimp only))
          go_roundw
          case rel=>exact ⟨k+1,by omega,by go_num,HF2.out,T2.trans (X':=fun _=>False) (Turn.of_below hb3) (fun b h=>h.elim),⟨_,_,by rw [HSB.out.1];exact hP2.below hb3,by rw [HSB.out.1];exact rP2.below hb3⟩,⟨_,_,by rw [HSB.out.2];exact hQ2.below hb3,by rw [HSB.out.2];exact rQ2.below hb3⟩⟩
          case measure=>simp [intOf];omega
        | false=>
          go_wp2_with (first | (refine aN 33 (.tmp 11) rfl ?_;refine aG (hP2) Tryz.underlying33 rfl bW rfl (.tmp 11) rfl rfl ?_) | (refine aN 33 (.tmp 12) rfl ?_;refine aG (hQ2) Tryz.underlying33 rfl bW rfl (.tmp 12) rfl rfl ?_) | (go_at_call 108;refine HSM.out.mono ?_;rintro e w3 ⟨rfl,hb3⟩;dsimp only))
          go_ret2;exact ⟨by rw [HF2.out] <;> first | rfl | (push_cast;rfl),(kS hbw T2 hXB hbw.size).trans (hb3.mono (by have:=hbw.size;have:=T2.size;omega))⟩
    · have pb:k<b.length:=by omega
      rw [← akl pa] at hp hpr;obtain ⟨bb,ob,Ab,cb,rfl,hSb,aDM,hrb,hbb⟩:=alY hlb hgb (awC.turn hI.t hX) pb;obtain ⟨sa,hsa⟩:∃ q,M.TS r (plain a) (k+1)=q:=⟨_,rfl⟩;obtain ⟨sb,hsb⟩:∃ q,M.TS r (plain b) (k+1)=q:=⟨_,rfl⟩
      have hv2:sa.eq sb=v:=by rw [← hsa, ← hsb];exact hv
      rw [hsa] at hp hpr;rw [hsb] at hrb hbb;have aBK:=hrb;have hq1:=hq
      have t1:decide (k<a.length)=false:=by simp;omega
      have t2:decide (k<b.length)=true:=by simp;omega
      have u1:¬ ((k:Int)<(a.length:Int)):=by omega
      have u2:((k:Int)<(b.length:Int)):=by omega
      have i1:(0:Int)≤(k:Int):=by omega
      have i2:(k:Int)<(m:Int):=by omega
      have HSB:=hide (And.intro hsa hsb);clear hsa hsb hv pa pb
      go_upto_region 13 with (first | (refine aN 33 (.tmp 58) rfl ?_;refine jh (g:=bb) (o:=ob+k*15) aBK Tryz.underlying33 rfl bW rfl (.tmp 58) rfl rfl ?_) | (refine aO 33 (.tmp 12) (.tmp 59) rfl ?_;refine aF hq1 (aW sb Ab cb) rfl bW (dL _ _ _) rfl (.tmp 12) (.tmp 59) rfl rfl rfl ?_))
      refine acH (p:=fun W=>Code.wp _ _ _ _ W) (fun w2 hw2=>?_)
      have hP2:Held w2 p (aW sa As cs) 33:=by rw [hw2];exact Held.others npq _ _ _ (hp)
      have hQ2:Held w2 q (aW sb Ab cb) 33:=by rw [hw2];exact hq1.whole _ rfl
      have rP2:bD w2 (fun b=>b≠p∧b≠q) As cs sa.ay:=by rw [hw2];exact (bD.sets (fun h=>h.2 rfl) _ _ _ hpr)
      have rQ2:bD w2 (fun b=>b≠p∧b≠q) Ab cb sb.ay:=by rw [hw2];exact (bD.sets (fun h=>h.2 rfl) _ _ _ hbb)
      have T2:Turn (fun b=>b=p∨b=q) W w2:=by rw [hw2];exact (hI.t.trans (l7 (X:=fun b=>b=p∨b=q) (.inr rfl) _ _) (fun b h=> .inl h))
      have hsm:=afp _ _ sa sb As Ab cs cb w2 rP2 rQ2;rw [hv2] at hsm;have HSM:=hide hsm;clear hsm hv2 hw2 hp hq hpr hqr hI
      cases v with
      | true=>
        go_wp2_with (first | (refine aN 33 (.tmp 11) rfl ?_;refine aG (hP2) Tryz.underlying33 rfl bW rfl (.tmp 11) rfl rfl ?_) | (refine aN 33 (.tmp 12) rfl ?_;refine aG (hQ2) Tryz.underlying33 rfl bW rfl (.tmp 12) rfl rfl ?_) | (go_at_call 108;refine HSM.out.mono ?_;rintro e w3 ⟨rfl,hb3⟩;dsimp only))
        go_roundw
        case rel=>exact ⟨k+1,by omega,by go_num,HF2.out,T2.trans (X':=fun _=>False) (Turn.of_below hb3) (fun b h=>h.elim),⟨_,_,by rw [HSB.out.1];exact hP2.below hb3,by rw [HSB.out.1];exact rP2.below hb3⟩,⟨_,_,by rw [HSB.out.2];exact hQ2.below hb3,by rw [HSB.out.2];exact rQ2.below hb3⟩⟩
        case measure=>simp [intOf];omega
      | false=>
        go_wp2_with (first | (refine aN 33 (.tmp 11) rfl ?_;refine aG (hP2) Tryz.underlying33 rfl bW rfl (.tmp 11) rfl rfl ?_) | (refine aN 33 (.tmp 12) rfl ?_;refine aG (hQ2) Tryz.underlying33 rfl bW rfl (.tmp 12) rfl rfl ?_) | (go_at_call 108;refine HSM.out.mono ?_;rintro e w3 ⟨rfl,hb3⟩;dsimp only))
        go_ret2;exact ⟨by rw [HF2.out] <;> first | rfl | (push_cast;rfl),(kS hbw T2 hXB hbw.size).trans (hb3.mono (by have:=hbw.size;have:=T2.size;omega))⟩
  · have hke:k=m:=by omega
    have i9:¬ ((k:Int)<(m:Int)):=by omega
    have hf2:M.changed r (plain a) (plain b)=0:=HF.out.trans (by rw [hke,Nat.sub_self];rfl);have HF2:=hide hf2;have T2:=hI.t;obtain ⟨hX,hXB⟩:=HX.out;clear hf2 hke hlt hI;go_wp2;refine HK.out _ _ ?_;go_wp2;go_ret2;exact ⟨by rw [HF2.out] <;> rfl,kS hbw T2 hXB hbw.size⟩
def as3 (r:M.Rules) (a b:List M.aI):Int:=aU [aU [M.aH r,M.je a],M.je b]
def axy (r:M.Rules) (a b:List M.aI):Int:=if as3 r a b=0 then M.changed r a b else 0
theorem ajC {a b:Int} (h:aU [a,b]=0):a=0∧b=0:=by
 unfold aU aU aU at h
 by_cases ha:a=0
 · by_cases hb:b=0
   · exact ⟨ha,hb⟩
   · simp [ha,hb] at h
 · simp [ha] at h
theorem akN (r:M.Rules) (a b:List Sh) (A B:Option Addr) (c d:Nat) (w:World) (hp0:wG w (fun _=>True) A c a) (hq0:wG w (fun _=>True) B d b):
 Calls Tryz.prog 58 #[jM r,.slice A a.length c,.slice B b.length d] w fun e w'=>e= .returned (.tuple #[.int .i64 (axy r (plain a) (plain b)),.int .i64 (as3 r (plain a) (plain b))])∧Below w.heap.size w w':=by
 have hp:=hp0.more (S':=fun b=>b<w.heap.size) (fun b hb _=>hb);have hq:=hq0.more (S':=fun b=>b<w.heap.size) (fun b hb _=>hb);have HP:=hide (And.intro hp hq);obtain ⟨E1,hE1⟩:∃ q,aU [M.aH r,M.je (plain a)]=q:=⟨_,rfl⟩;obtain ⟨E2,hE2⟩:∃ q,M.je (plain b)=q:=⟨_,rfl⟩;obtain ⟨E,hE⟩:∃ q,aU [E1,E2]=q:=⟨_,rfl⟩
 have hEE:as3 r (plain a) (plain b)=E:=by unfold as3;rw [hE1,hE2,hE]
 have hck:=fun W h=>check_any (fun b=>b<w.heap.size) r a A c W h;have hcl:=fun W h=>Hq (fun b=>b<w.heap.size) b B d W h;have hfi:=fun A c W h=>first_any (fun _=>True) A c [E1,E2] W h
 simp only [hE1] at hck
 simp only [hE2] at hcl
 simp only [hE] at hfi
 have wZ:=hide hck;have JF:=hide hcl;have HFI:=hide hfi;clear hck hcl hfi hp0 hq0
 by_cases h0:E=0
 rotate_left
 · have q0:(E != 0)=true:=by simpa using h0
   have hv:axy r (plain a) (plain b)=0:=if_neg (by rw [hEE];exact h0);have HV:=hide (And.intro hv hEE);clear hv hEE h0 hE hE1 hE2
   go_enter Tryz.func58,Tryz.ntmps58
   have hB:=(bU.nil w).new (by simp) ([.string r.game,.int .i64 r.target,.int .i64 r.aY]) 23
   go_wp2_with (first | (refine aN 23 (.tmp 3) rfl ?_;refine aG (hB.bf rfl) Tryz.underlying23 rfl kV rfl (.tmp 3) rfl rfl ?_) | (go_at_call 63;refine (wZ.out _ (hp.below hB.bw)).mono ?_;rintro e w1 ⟨rfl,hb1⟩;have hB1:=hB.call (by simp) hb1;dsimp only) | (go_at_call 40;refine (JF.out _ (hq.below hB1.bw)).mono ?_;rintro e w2 ⟨rfl,hb2⟩;have hB2:=hB1.call (by simp) hb2;dsimp only) | (go_at_call 85;refine (HFI.out _ _ _ (bD.lit _ _ _ (by simp) _ trivial)).mono ?_;rintro e w8 ⟨rfl,rfl⟩;dsimp only))
   go_ret2;exact ⟨by rw [HV.out.1,HV.out.2] <;> rfl,hB2.bw.alloc hB2.bw.size _⟩
 subst h0;have q0:((0:Int) != 0)=false:=rfl;have h12:=ajC hE;obtain ⟨rfl,rfl⟩:=h12;have h13:=ajC hE1;have hv:axy r (plain a) (plain b)=M.changed r (plain a) (plain b):=if_pos hEE;have HR:Hid (M.aH r=0∧M.je (plain a)=0∧M.je (plain b)=0):=hide ⟨h13.1,h13.2,hE2⟩;have hall:=aF3 r a b A B c d w HR HP (hide (aGa r a b A B c d w HR HP (hide (aGh r a b A B c d w HR HP))));have aks:=hide hall;rw [hv,hEE];clear hall hv hEE hE hE1 hE2 h13
 go_enter Tryz.func58,Tryz.ntmps58
 apply wp_seq_k;intro K0 hK0;have YE:=hide hK0;clear hK0;go_wp2;refine YE.out _ _ ?_;refine acH (p:=fun W=>Code.wp _ _ _ _ W) (fun w0 hw0=>?_)
 have hB:bU w w0 [([.string r.game,.int .i64 r.target,.int .i64 r.aY],23)]:=by rw [hw0];exact (bU.nil w).new (by simp) ([.string r.game,.int .i64 r.target,.int .i64 r.aY]) 23
 clear hw0;apply wp_seq_k;intro K hK;have HK:=hide hK;clear hK
 go_wp2_with (first | (refine aN 23 (.tmp 3) rfl ?_;refine aG (hB.bf rfl) Tryz.underlying23 rfl kV rfl (.tmp 3) rfl rfl ?_) | (go_at_call 63;refine (wZ.out _ (hp.below hB.bw)).mono ?_;rintro e w1 ⟨rfl,hb1⟩;have hB1:=hB.call (by simp) hb1;dsimp only) | (go_at_call 40;refine (JF.out _ (hq.below hB1.bw)).mono ?_;rintro e w2 ⟨rfl,hb2⟩;have hB2:=hB1.call (by simp) hb2;dsimp only) | (go_at_call 85;refine (HFI.out _ _ _ (bD.lit _ _ _ (by simp) _ trivial)).mono ?_;rintro e w8 ⟨rfl,rfl⟩;dsimp only))
 refine HK.out _ _ ?_;have HA:=aks.out;apply HA;exact ⟨rfl,rfl,rfl,(hB2.bf rfl).alloc _,hB2.bw.alloc hB2.bw.size _⟩
theorem ain (S S':Nat→Prop) (r:M.Rules) (a b:List Sh) (A B:Option Addr) (c d:Nat) (w:World) (hp:wG w S A c a) (hq:wG w S' B d b) (hr:M.aH r=0) (ha:M.je (plain a)=0) (hb:M.je (plain b)=0):
 Calls Tryz.prog 59 #[jM r,.slice A a.length c,.slice B b.length d] w fun e w'=>e= .returned (.int .i64 (M.changed r (plain a) (plain b)))∧Below w.heap.size w w':=by
 have l1:=((M.Zt _).1 ha).1;have l2:=((M.Zt _).1 hb).1;rw [eF] at l1 l2;have hall:=aGo r a b w (hide ⟨l1,l2⟩);have aks:=hide hall;have HC:=hide (And.intro hr (And.intro ha hb));clear hall hr ha hb
 go_enter Tryz.func59,Tryz.ntmps59
 apply wp_seq_k;intro K hK;have HK:=hide hK;clear hK;go_wp2;refine HK.out _ _ ?_;refine acH (p:=fun W=>Code.wp _ _ _ _ W) (fun w0 hw0=>?_)
 have hB:bU w w0 [([.string r.game,.int .i64 r.target,.int .i64 r.aY],25)]:=by rw [hw0];exact (bU.nil w).new (by simp) ([.string r.game,.int .i64 r.target,.int .i64 r.aY]) 25
 clear hw0;have hsa:=fun W' (h:(fun w':World=>Below w0.heap.size w0 w') W')=>acV _ r a A c W' ((hp.below hB.bw).below h) HC.out.1 HC.out.2.1;have hsb:=fun W' (h:(fun w':World=>Below w0.heap.size w0 w') W')=>acV _ r b B d W' ((hq.below hB.bw).below h) HC.out.1 HC.out.2.2;have HSA:=hide hsa;have HSB:=hide hsb;have Vh:∀ W',(fun w':World=>Below w0.heap.size w0 w') W'→W'.rangeAt w.heap.size 0 ([.string r.game,.int .i64 r.target,.int .i64 r.aY]):=fun W' h=>((hB.bf rfl).below h).range;clear hsa hsb;have tok1:True:=trivial;apply wp_seq_k;intro K1 hK1;have Q9:=hide hK1;clear hK1;refine wp_region_held_drew (S:=(fun w':World=>Below w0.heap.size w0 w')) (by kernel_rfl) ?eP (fun hHeld=>?_)
 case eP=>exact (Below.refl _ _).drew
 refine Zf 0 Vh Tryz.underlying25 ?_;refine tk 1 ?_;refine Zf 3 Vh Tryz.underlying25 ?_;refine tk 4 ?_;refine tr 2 fun K hK=>?_;go_simp
 (go_at_call 67;(first | (have _t:=tok1;clear tok1;refine (HSA.out _ hHeld).mono ?_;rintro e wa ⟨La,A1,c1,rfl,hla,hra,hba⟩) | (refine (HSB.out _ hHeld).mono ?_;rintro e wb ⟨Lb,A2,c2,rfl,hlb,hrb,hbb⟩)))
 refine Zc hK (hHeld.trans (hba.mono hHeld.size)) fun hHeld=>?_;clear hK K;refine tr 5 fun K hK=>?_;go_simp
 (go_at_call 67;(first | (have _t:=tok1;clear tok1;refine (HSA.out _ hHeld).mono ?_;rintro e wa ⟨La,A1,c1,rfl,hla,hra,hba⟩) | (refine (HSB.out _ hHeld).mono ?_;rintro e wb ⟨Lb,A2,c2,rfl,hlb,hrb,hbb⟩)))
 refine Zc hK (hHeld.trans (hbb.mono hHeld.size)) fun hHeld=>?_;clear hK K;refine tk 6 ?_;refine tk 7 ?_;refine wpAnyH_done (by kernel_rfl) ?_ _;refine Q9.out _ _ ?_;have HA:=aks.out;apply HA;exact ⟨⟨La,A1,c1,rfl,hla,(hra.below hbb).more (fun _ _ _=>trivial)⟩,⟨Lb,A2,c2,rfl,hlb,hrb.more (fun _ _ _=>trivial)⟩,hB.bw.trans (hHeld.mono hB.bw.size)⟩
structure CoA (W0:World) (r:M.Rules) (l:List Sh) (Al:Option Addr) (cl:Nat) (n:Int) (x:Sh) (v1 v3 v5:Value) (W:World):Prop where
 e1:v1= .slice Al l.length cl
 e3:v3=ptr W0.heap.size
 e5:v5=ptr (W0.heap.size+1)
 h3:Held W W0.heap.size ([.string r.game,.int .i64 r.target,.int .i64 r.aY]) 23
 h5:Held W (W0.heap.size+1) (.int .i64 n::au x) 109
 rl:wG W (fun _=>True) Al cl l
 rx:jl W (fun _=>True) x.a x.c x.x.aA
 pl:∀ e∈l,e.x.aA.length*16≤140737488355328
 ll:l.length*80≤140737488355328
 fit:x.x.aA.length*16≤140737488355328
 bw:Below W0.heap.size W0 W
theorem CoA.below {W0 W W':World} {r:M.Rules} {l:List Sh} {Al:Option Addr} {cl:Nat} {n:Int} {x:Sh} {v1 v3 v5:Value} (h:CoA W0 r l Al cl n x v1 v3 v5 W) (hb:Below W.heap.size W W'):CoA W0 r l Al cl n x v1 v3 v5 W':=
 ⟨h.e1,h.e3,h.e5,h.h3.below hb,h.h5.below hb,h.rl.below hb,Reads.below h.rx hb,h.pl,h.ll,h.fit,VY h.bw hb⟩
def CoB (W0:World) (r:M.Rules) (l:List Sh) (Al:Option Addr) (cl:Nat) (n:Int) (x:Sh) (v1 v3 v5 v7 v8 v9:Value) (W:World):Prop:=
 CoA W0 r l Al cl n x v1 v3 v5 W∧∃ B7 A8 c8 l' B9 A9 c9,v7=ptr B7∧Held W B7 ([.string r.game,.int .i64 r.target,.int .i64 r.aY]) 25∧v8= .slice A8 l'.length c8∧plain l'=plain l∧wG W (fun _=>True) A8 c8 l'∧v9=ptr B9∧Held W B9 (au ⟨x.x,A9,c9⟩) 69∧jl W (fun _=>True) A9 c9 x.x.aA
theorem CoB.below {W0 W W':World} {r:M.Rules} {l:List Sh} {Al:Option Addr} {cl:Nat} {n:Int} {x:Sh} {v1 v3 v5 v7 v8 v9:Value} (h:CoB W0 r l Al cl n x v1 v3 v5 v7 v8 v9 W) (hb:Below W.heap.size W W'):CoB W0 r l Al cl n x v1 v3 v5 v7 v8 v9 W':=by
 obtain ⟨h1,B7,A8,c8,l',B9,A9,c9,e7,h7,e8,hp,h8,e9,h9,h10⟩:=h;exact ⟨h1.below hb,B7,A8,c8,l',B9,A9,c9,e7,h7.below hb,e8,hp,h8.below hb,e9,h9.below hb,Reads.below h10 hb⟩
def agX (l:List Sh) (x:Sh) (m:List M.aI) (v:Value) (W:World):Prop:=∃ L A c,v= .slice A (L:List Sh).length c∧plain L=m∧wG W (fun _=>True) A c L
theorem agX.below {W W':World} {l:List Sh} {x:Sh} {m:List M.aI} {v:Value} (h:agX l x m v W) (hb:Below W.heap.size W W'):agX l x m v W':=by
 obtain ⟨L,A,c,e,hp,hr⟩:=h;exact ⟨L,A,c,e,hp,hr.below hb⟩
def coO (l:List Sh) (n:Int) (x:M.aI):List M.aI:=if pcE (plain l) n x=0 then pcM (plain l) n x else plain l
def coV (r:M.Rules) (l:List Sh) (n:Int) (x:M.aI):Int:=if wP r l=0 then M.changed r (plain l) (coO l n x) else 0
theorem ak1 (l:List M.aI) (n:Int) (x:M.aI):(pcM l n x).length≤l.length:=by unfold pcM;split <;> simp
theorem ak8 {l:List M.aI} {n:Int} {x:M.aI}:∀ e∈pcM l n x,e∈l∨e=x:=fun e he=>by
 unfold pcM at he
 split at he
 · exact List.mem_or_eq_of_mem_set he
 · cases he
theorem asV {l:List M.aI} {n:Int} {x:M.aI} (h:pcE l n x=0):M.je l=0∧M.cZ x=0:=by
 have hs:=abY l n x;rw [h] at hs
 by_cases h1:M.je l=0
 · rw [if_pos h1] at hs
   refine ⟨h1,?_⟩
   unfold aa6 at hs
   split at hs
   · exact absurd hs (by decide)
   · exact hs.symm
 · rw [if_neg h1] at hs;exact absurd hs.symm h1
theorem aqi {l:List Sh} {n:Int} {x:M.aI} (h:M.je (plain l)=0):M.je (coO l n x)=0:=by
 unfold coO
 split
 · rename_i h0
   rw [M.Zt] at h ⊢;refine ⟨Nat.le_trans (ak1 _ _ _) h.1,fun e he=>?_⟩
   rcases ak8 e he with h1 | rfl
   · exact h.2 e h1
   · exact (asV h0).2
 · exact h
theorem ayN (l:List Sh) (n:Int) (x:M.aI):(coO l n x).length≤l.length:=by
 unfold coO;split
 · exact Nat.le_trans (ak1 _ _ _) (by rw [eF];exact Nat.le_refl _)
 · rw [eF];exact Nat.le_refl _
theorem ayU {l:List Sh} {n:Int} {x:M.aI}:∀ e∈coO l n x,e∈plain l∨e=x:=fun e he=>by
 unfold coO at he
 split at he
 · exact ak8 e he
 · exact .inl he
theorem aq6 {l L:List Sh} {x:Sh} {m:List M.aI} (hL:plain L=m) (hlen:m.length≤l.length) (hm:∀ e∈m,e∈plain l∨e=x.x) (pl:∀ e∈l,e.x.aA.length*16≤140737488355328) (ll:l.length*80≤140737488355328) (fit:x.x.aA.length*16≤140737488355328):
 L.length*80≤140737488355328∧∀ e∈L,e.x.aA.length*16≤140737488355328:=by
 have h1:L.length=m.length:=by rw [← hL,eF]
 refine ⟨by omega,fun e he=>?_⟩
 rcases hm e.x (by rw [← hL];exact List.mem_map_of_mem he) with h | h
 · obtain ⟨e',he',h2⟩:=List.mem_map.1 h
   rw [← h2];exact pl e' he'
 · rw [h];exact fit
noncomputable def ZW (n:Nat):Code:=dQ n ((Tryz.f13).body.getD .skip)
@[reducible] def COQ (W0:World) (r:M.Rules) (l:List Sh) (Al:Option Addr) (cl:Nat) (n:Int) (x:Sh) (F:Value→Value→Value→Value→Value→Value→Value→Value→Value→Value→Value→Value→Value→Value→Value→World→Prop) (n:Nat):Prop:=∀ (z0 z1 z2 z3 z4 z5 z6 z7 z8 z9 z10 z11 z12 z13 kD kK kF z17 kL jQ z20 z21 z22 z23 z24 z25 z26 z27 z28 z29 z30 z31 z32 z33 z34 z35 z36 z37 z38 z39 z40 z41 z42 z43 z44 z45 z46 z47 z48 z49 z50 z51 z52 z53 z54 z55 z56 z57 z58 z59 z60 z61 z62 z63 z64 z65 z66 z67 z68 z69 z70 z71 z72 z73 z74 z75 z76 z77 z78 z79 z80 mM z82 z83 z84 z85 z86 z87 mO z89 mP z91 mQ z93 mV mW mX mY mZ ng eU eX eY:Value) (W:World),F z1 z3 z5 z7 z8 z9 z10 z11 z12 z13 kD kK kF z17 kL W→(ZW n).wp Tryz.prog (bodyPost Tryz.prog Tryz.f13 (fun e w'=>e= .returned (.bool true)∧Below W0.heap.size W0 w')) {tmps:= #[z0,z1,z2,z3,z4,z5,z6,z7,z8,z9,z10,z11,z12,z13,kD,kK,kF,z17,kL,jQ,z20,z21,z22,z23,z24,z25,z26,z27,z28,z29,z30,z31,z32,z33,z34,z35,z36,z37,z38,z39,z40,z41,z42,z43,z44,z45,z46,z47,z48,z49,z50,z51,z52,z53,z54,z55,z56,z57,z58,z59,z60,z61,z62,z63,z64,z65,z66,z67,z68,z69,z70,z71,z72,z73,z74,z75,z76,z77,z78,z79,z80,mM,z82,z83,z84,z85,z86,z87,mO,z89,mP,z91,mQ,z93,mV,mW,mX,mY,mZ,ng,eU,eX,eY],defers:=[] } W
@[reducible] def aCc (W0:World) (r:M.Rules) (l:List Sh) (Al:Option Addr) (cl:Nat) (n:Int) (x:Sh):Prop:=COQ W0 r l Al cl n x (fun z1 z3 z5 _ _ _ _ _ _ _ _ _ _ _ _ W=>CoA W0 r l Al cl n x z1 z3 z5 W) 1
@[reducible] def aAI (W0:World) (r:M.Rules) (l:List Sh) (Al:Option Addr) (cl:Nat) (n:Int) (x:Sh):Prop:=COQ W0 r l Al cl n x (fun z1 z3 z5 z7 z8 z9 _ _ _ _ _ _ _ _ _ W=>CoB W0 r l Al cl n x z1 z3 z5 z7 z8 z9 W) 2
@[reducible] def aAP (W0:World) (r:M.Rules) (l:List Sh) (Al:Option Addr) (cl:Nat) (n:Int) (x:Sh):Prop:=COQ W0 r l Al cl n x (fun z1 z3 z5 z7 z8 z9 _ _ _ _ _ _ _ _ _ W=>CoB W0 r l Al cl n x z1 z3 z5 z7 z8 z9 W) 3
@[reducible] def aAW (W0:World) (r:M.Rules) (l:List Sh) (Al:Option Addr) (cl:Nat) (n:Int) (x:Sh):Prop:=COQ W0 r l Al cl n x (fun z1 z3 z5 z7 z8 z9 z10 z11 _ _ _ _ _ _ _ W=>CoB W0 r l Al cl n x z1 z3 z5 z7 z8 z9 W∧agX l x (pcM (plain l) n x.x) z10 W∧z11= .int .i64 (pcE (plain l) n x.x)) 4
@[reducible] def aA3 (W0:World) (r:M.Rules) (l:List Sh) (Al:Option Addr) (cl:Nat) (n:Int) (x:Sh):Prop:=COQ W0 r l Al cl n x (fun z1 z3 z5 z7 z8 z9 z10 z11 z12 _ _ _ _ _ _ W=>CoB W0 r l Al cl n x z1 z3 z5 z7 z8 z9 W∧(agX l x (pcM (plain l) n x.x) z10 W∧z11= .int .i64 (pcE (plain l) n x.x))∧z12= .int .i64 (M.je (plain l))) 5
@[reducible] def aBa (W0:World) (r:M.Rules) (l:List Sh) (Al:Option Addr) (cl:Nat) (n:Int) (x:Sh):Prop:=COQ W0 r l Al cl n x (fun z1 z3 z5 z7 z8 z9 z10 z11 z12 z13 _ _ _ _ _ W=>CoB W0 r l Al cl n x z1 z3 z5 z7 z8 z9 W∧(agX l x (pcM (plain l) n x.x) z10 W∧z11= .int .i64 (pcE (plain l) n x.x))∧z12= .int .i64 (pcE (plain l) n x.x)∧agX l x (pcM (plain l) n x.x) z13 W) 7
@[reducible] def atT (W0:World) (r:M.Rules) (l:List Sh) (Al:Option Addr) (cl:Nat) (n:Int) (x:Sh):Prop:=COQ W0 r l Al cl n x (fun z1 z3 z5 z7 z8 z9 z10 _ z12 _ _ _ _ _ _ W=>CoB W0 r l Al cl n x z1 z3 z5 z7 z8 z9 W∧agX l x (pcM (plain l) n x.x) z10 W∧z12= .int .i64 (pcE (plain l) n x.x)) 8
@[reducible] def at1 (W0:World) (r:M.Rules) (l:List Sh) (Al:Option Addr) (cl:Nat) (n:Int) (x:Sh):Prop:=COQ W0 r l Al cl n x (fun z1 z3 z5 z7 z8 z9 _ _ _ _ kD _ _ _ _ W=>CoB W0 r l Al cl n x z1 z3 z5 z7 z8 z9 W∧agX l x (coO l n x.x) kD W) 10
@[reducible] def aue (W0:World) (r:M.Rules) (l:List Sh) (Al:Option Addr) (cl:Nat) (n:Int) (x:Sh):Prop:=COQ W0 r l Al cl n x (fun z1 z3 z5 z7 z8 z9 _ _ _ _ kD kK kF _ _ W=>CoB W0 r l Al cl n x z1 z3 z5 z7 z8 z9 W∧agX l x (coO l n x.x) kD W∧kK= .int .i64 (coV r l n x.x)∧kF= .int .i64 (wP r l)) 11
@[reducible] def aul (W0:World) (r:M.Rules) (l:List Sh) (Al:Option Addr) (cl:Nat) (n:Int) (x:Sh):Prop:=COQ W0 r l Al cl n x (fun z1 z3 z5 z7 z8 z9 _ _ _ _ kD kK kF z17 _ W=>CoB W0 r l Al cl n x z1 z3 z5 z7 z8 z9 W∧agX l x (coO l n x.x) kD W∧(kK= .int .i64 (coV r l n x.x)∧kF= .int .i64 (wP r l))∧z17= .int .i64 (wP r l)) 12
@[reducible] def aus (W0:World) (r:M.Rules) (l:List Sh) (Al:Option Addr) (cl:Nat) (n:Int) (x:Sh):Prop:=COQ W0 r l Al cl n x (fun _ _ _ _ _ _ _ _ _ _ _ kK kF z17 kL W=>Below W0.heap.size W0 W∧(kK= .int .i64 (coV r l n x.x)∧kF= .int .i64 (wP r l))∧z17= .int .i64 (wP r l)∧kL= .int .i64 (coV r l n x.x)) 14
theorem aGC (W0:World) (r:M.Rules) (l:List Sh) (Al:Option Addr) (cl:Nat) (n:Int) (x:Sh) (HG:Hid (Glob W0)) (HN:Hid (aAI W0 r l Al cl n x)):aCc W0 r l Al cl n x:=by
 dsimp only [aCc,COQ]
 intro z0 _ z2 _ z4 _ z6 _ z8 _ z10 z11 z12 z13 kD kK kF z17 kL _ _ _ _ _ _ z25 z26 z27 z28 z29 z30 z31 z32 z33 z34 z35 z36 z37 z38 z39 z40 z41 z42 z43 z44 z45 z46 z47 z48 z49 z50 z51 z52 z53 z54 z55 z56 z57 z58 z59 z60 z61 z62 z63 z64 z65 z66 z67 z68 z69 z70 z71 z72 z73 z74 z75 z76 z77 z78 z79 z80 mM z82 z83 z84 z85 z86 z87 mO z89 mP z91 mQ z93 mV mW mX mY mZ ng eU eX eY W hf
 dsimp only [ZW,dQ,Tryz.f13,Option.getD]
 have hF:=hf;obtain ⟨rfl,rfl,rfl,h3,h5,_,_,_,_,_,_⟩:=hf;have hr3:∀ W',(fun w':World=>Below W.heap.size W w') W'→W'.rangeAt W0.heap.size 0 ([.string r.game,.int .i64 r.target,.int .i64 r.aY]):=fun W' h=>(h3.below h).range;have SC:∀ W',(fun w':World=>Below W.heap.size W w') W'→W'.rangeAt (W0.heap.size+1) 1 (au x):=fun W' h j v hj=>(h5.below h).cell (j:=1+j) (by rw [Nat.add_comm,List.getElem?_cons_succ];exact hj);apply wp_seq_k;intro K hK;have HK:=hide hK;clear hK;refine wp_region_held_drew (S:=(fun w':World=>Below W.heap.size W w')) (by kernel_rfl) ?eP (fun hHeld=>?_)
 case eP=>exact (Below.refl _ _).drew
 refine ajJ (fun f hf=>?_)
 have J:∀ (p7 p9:Nat) (A6 A8:Option Addr) (c6 c8:Nat) (l':List Sh) (wx:World),Held wx p7 [.string ⟨#[]⟩,.int .i64 0,.int .i64 0] 25→Held wx p9 JB 69→p7≠p9→W.heap.size≤p7→W.heap.size≤p9→(fun w':World=>Below W.heap.size W w') wx→plain l'=plain l→
  wG wx (fun b=>b≠p7∧b≠p9) A6 c6 l'→jl wx (fun b=>b≠p7∧b≠p9) A8 c8 x.x.aA→f 3 #[true,true,true,true,true,true,true,true,false,false,false] {tmps:= #[z0,.slice Al l.length cl,z2,ptr W0.heap.size,z4,ptr (W0.heap.size+1),z6,ptr p7,z8,ptr p9,z10,z11,z12,z13,kD,kK,kF,z17,kL,.agg ([.string r.game,.int .i64 r.target,.int .i64 r.aY]:List Value).toArray,.slice Al l.length cl,.slice A6 l'.length c6,.pointer (some ⟨W0.heap.size+1,1,none⟩),.agg (au x).toArray,iO x.x A8 c8,z25,z26,z27,z28,z29,z30,z31,z32,z33,z34,z35,z36,z37,z38,z39,z40,z41,z42,z43,z44,z45,z46,z47,z48,z49,z50,z51,z52,z53,z54,z55,z56,z57,z58,z59,z60,z61,z62,z63,z64,z65,z66,z67,z68,z69,z70,z71,z72,z73,z74,z75,z76,z77,z78,z79,z80,mM,z82,z83,z84,z85,z86,z87,mO,z89,mP,z91,mQ,z93,mV,mW,mX,mY,mZ,ng,eU,eX,eY],defers:=[] } wx:=by
  intro p7 p9 A6 A8 c6 c8 l' wx g7 g9 n79 l7 l9 hHeld hpl kP Wu;subst hf;have hHeld:(fun w':World=>Below W.heap.size W w') (wx.setCells p7 0 ([.string r.game,.int .i64 r.target,.int .i64 r.aY])):=below_setCells _ l7 _ _ _ _ hHeld;refine wpAnyH_ready (rs:=[8]) (by kernel_rfl) (by simp) ?_;refine ZY (o:=_) (ga rfl) (by kernel_rfl) g7 ([.string r.game,.int .i64 r.target,.int .i64 r.aY]) rfl Z4 (xI _ _ _) (.tmp 7) (.tmp 19) rfl rfl rfl hHeld ?_
  try simp only [Act.put,la,lz,ls]
  refine tk 9 ?_;have hHeld:(fun w':World=>Below W.heap.size W w') ((wx.setCells p7 0 ([.string r.game,.int .i64 r.target,.int .i64 r.aY])).setCells p9 0 (au ⟨x.x,A8,c8⟩)):=below_setCells _ l9 _ _ _ _ hHeld;refine wpAnyH_ready (rs:=[10]) (by kernel_rfl) (by simp) ?_;refine ZY (o:=_) (ga rfl) (by kernel_rfl) (Held.others n79.symm _ _ _ g9) (au ⟨x.x,A8,c8⟩) rfl Zi (uq x.x A8 c8) (.tmp 9) (.tmp 24) rfl rfl rfl hHeld ?_
  try simp only [Act.put,la,lz,ls]
  refine wpAnyH_done (by kernel_rfl) ?_ _;refine HK.out _ _ ?_;apply HN.out;refine ⟨hF.below hHeld,p7,A6,c6,l',p9,A8,c8,rfl,Held.others n79 _ _ _ (g7.whole _ rfl),rfl,hpl,?_,rfl,(Held.others n79.symm _ _ _ g9).whole _ rfl,?_⟩
  · exact (wG.aAu (wG.aAu kP (Below.refl _ _) (fun b _ h=>h.1)) (Below.refl _ _) (fun b _ h=>h.2)).more (fun _ _ _=>trivial)
  · exact Reads.more (Reads.sets (fun h=>h.2 rfl) _ _ _ (Reads.sets (fun h=>h.1 rfl) _ _ _ Wu)) (fun _ _ _=>trivial)
 rw [hf] at J;subst hf;refine Zf 0 hr3 Tryz.underlying23 ?_;refine tk 1 ?_;refine tk 3 ?_;refine Zf 4 SC Tryz.underlying66 ?_;refine agQ 2 6 7 (fun K hK=>?_) (fun K hK=>?_) fun K hK=>?_
 · go_simp
   (go_at_call 15;refine (Zy (fun _=>True) l Al cl _ (hF.rl.below hHeld) hF.ll hF.pl).mono ?_;rintro e w6 ⟨l',A6,c6,hpl,rfl,kP,hb6⟩)
   refine Zc hK (hHeld.trans (hb6.mono hHeld.size)) fun hHeld=>?_;clear hK K;refine agQ 5 6 7 (fun K hK=>?_) (fun K hK=>?_) fun K hK=>?_
   · go_simp
     (go_at_call 26;refine (Zo (fun _=>True) x.x x.a x.c _ (Reads.below hF.rx hHeld) hF.fit).mono ?_;rintro e w8 ⟨A8,c8,rfl,Wu,hb8⟩)
     refine Zc hK (hHeld.trans (hb8.mono hHeld.size)) fun hHeld=>?_;clear hK K;refine ZN 6 7 (fun K hK=>?_) fun K hK=>?_
     · go_simp
       refine Zc hK (Below.alloc hHeld hHeld.size _) fun hHeld=>?_;clear hK K;refine tr 7 fun K hK=>?_;go_simp;refine Zc hK (Below.alloc hHeld hHeld.size _) fun hHeld=>?_;clear hK K;have hq6:=hb6.size;have hq8:=hb8.size
       (try simp at hq6 hq8)
       exact J _ _ A6 A8 c6 c8 l' _ (Held.alloc (Held.newAt _ [.string ⟨#[]⟩,.int .i64 0,.int .i64 0] 25 (by first | rfl | simp)) _) (Held.newAt _ JB 69 (by first | rfl | simp)) (by (try simp);(try omega)) (by (try simp);(try omega)) (by (try simp);(try omega)) hHeld hpl (wG.below (wG.below (wG.below (wG.more kP (fun b hl h=>by (try simp at h hl⊢)<;>omega)) hb8) ((Below.refl _ _).alloc (Nat.le_refl _) _)) ((Below.refl _ _).alloc (Nat.le_refl _) _)) (Reads.alloc (Reads.alloc (Reads.more Wu (fun b hl h=>by (try simp at h hl⊢)<;>omega)) _) _)
     · go_simp
       refine Zc hK (Below.alloc hHeld hHeld.size _) fun hHeld=>?_;clear hK K;refine tr 6 fun K hK=>?_;go_simp;refine Zc hK (Below.alloc hHeld hHeld.size _) fun hHeld=>?_;clear hK K;have hq6:=hb6.size;have hq8:=hb8.size
       (try simp at hq6 hq8)
       exact J _ _ A6 A8 c6 c8 l' _ (Held.newAt _ [.string ⟨#[]⟩,.int .i64 0,.int .i64 0] 25 (by first | rfl | simp)) (Held.alloc (Held.newAt _ JB 69 (by first | rfl | simp)) _) (by (try simp);(try omega)) (by (try simp);(try omega)) (by (try simp);(try omega)) hHeld hpl (wG.below (wG.below (wG.below (wG.more kP (fun b hl h=>by (try simp at h hl⊢)<;>omega)) hb8) ((Below.refl _ _).alloc (Nat.le_refl _) _)) ((Below.refl _ _).alloc (Nat.le_refl _) _)) (Reads.alloc (Reads.alloc (Reads.more Wu (fun b hl h=>by (try simp at h hl⊢)<;>omega)) _) _)
   · go_simp
     refine Zc hK (Below.alloc hHeld hHeld.size _) fun hHeld=>?_;clear hK K;refine ZN 5 7 (fun K hK=>?_) fun K hK=>?_
     · go_simp
       (go_at_call 26;refine (Zo (fun _=>True) x.x x.a x.c _ (Reads.below hF.rx hHeld) hF.fit).mono ?_;rintro e w8 ⟨A8,c8,rfl,Wu,hb8⟩)
       refine Zc hK (hHeld.trans (hb8.mono hHeld.size)) fun hHeld=>?_;clear hK K;refine tr 7 fun K hK=>?_;go_simp;refine Zc hK (Below.alloc hHeld hHeld.size _) fun hHeld=>?_;clear hK K;have hq6:=hb6.size;have hq8:=hb8.size
       (try simp at hq6 hq8)
       exact J _ _ A6 A8 c6 c8 l' _ (Held.alloc (Held.below (Held.newAt _ [.string ⟨#[]⟩,.int .i64 0,.int .i64 0] 25 (by first | rfl | simp)) hb8) _) (Held.newAt _ JB 69 (by first | rfl | simp)) (by (try simp);(try omega)) (by (try simp);(try omega)) (by (try simp);(try omega)) hHeld hpl (wG.below (wG.below (wG.below (wG.more kP (fun b hl h=>by (try simp at h hl⊢)<;>omega)) ((Below.refl _ _).alloc (Nat.le_refl _) _)) hb8) ((Below.refl _ _).alloc (Nat.le_refl _) _)) (Reads.alloc (Reads.more Wu (fun b hl h=>by (try simp at h hl⊢)<;>omega)) _)
     · go_simp
       refine Zc hK (Below.alloc hHeld hHeld.size _) fun hHeld=>?_;clear hK K;refine tr 5 fun K hK=>?_;go_simp
       (go_at_call 26;refine (Zo (fun _=>True) x.x x.a x.c _ (Reads.below hF.rx hHeld) hF.fit).mono ?_;rintro e w8 ⟨A8,c8,rfl,Wu,hb8⟩)
       refine Zc hK (hHeld.trans (hb8.mono hHeld.size)) fun hHeld=>?_;clear hK K;have hq6:=hb6.size;have hq8:=hb8.size
       (try simp at hq6 hq8)
       exact J _ _ A6 A8 c6 c8 l' _ (Held.below (Held.alloc (Held.newAt _ [.string ⟨#[]⟩,.int .i64 0,.int .i64 0] 25 (by first | rfl | simp)) _) hb8) (Held.below (Held.newAt _ JB 69 (by first | rfl | simp)) hb8) (by (try simp);(try omega)) (by (try simp);(try omega)) (by (try simp);(try omega)) hHeld hpl (wG.below (wG.below (wG.below (wG.more kP (fun b hl h=>by (try simp at h hl⊢)<;>omega)) ((Below.refl _ _).alloc (Nat.le_refl _) _)) ((Below.refl _ _).alloc (Nat.le_refl _) _)) hb8) (Reads.more Wu (fun b hl h=>by (try simp at h hl⊢)<;>omega))
   · go_simp
     refine Zc hK (Below.alloc hHeld hHeld.size _) fun hHeld=>?_;clear hK K;refine ZN 5 6 (fun K hK=>?_) fun K hK=>?_
     · go_simp
       (go_at_call 26;refine (Zo (fun _=>True) x.x x.a x.c _ (Reads.below hF.rx hHeld) hF.fit).mono ?_;rintro e w8 ⟨A8,c8,rfl,Wu,hb8⟩)
       refine Zc hK (hHeld.trans (hb8.mono hHeld.size)) fun hHeld=>?_;clear hK K;refine tr 6 fun K hK=>?_;go_simp;refine Zc hK (Below.alloc hHeld hHeld.size _) fun hHeld=>?_;clear hK K;have hq6:=hb6.size;have hq8:=hb8.size
       (try simp at hq6 hq8)
       exact J _ _ A6 A8 c6 c8 l' _ (Held.newAt _ [.string ⟨#[]⟩,.int .i64 0,.int .i64 0] 25 (by first | rfl | simp)) (Held.alloc (Held.below (Held.newAt _ JB 69 (by first | rfl | simp)) hb8) _) (by (try simp);(try omega)) (by (try simp);(try omega)) (by (try simp);(try omega)) hHeld hpl (wG.below (wG.below (wG.below (wG.more kP (fun b hl h=>by (try simp at h hl⊢)<;>omega)) ((Below.refl _ _).alloc (Nat.le_refl _) _)) hb8) ((Below.refl _ _).alloc (Nat.le_refl _) _)) (Reads.alloc (Reads.more Wu (fun b hl h=>by (try simp at h hl⊢)<;>omega)) _)
     · go_simp
       refine Zc hK (Below.alloc hHeld hHeld.size _) fun hHeld=>?_;clear hK K;refine tr 5 fun K hK=>?_;go_simp
       (go_at_call 26;refine (Zo (fun _=>True) x.x x.a x.c _ (Reads.below hF.rx hHeld) hF.fit).mono ?_;rintro e w8 ⟨A8,c8,rfl,Wu,hb8⟩)
       refine Zc hK (hHeld.trans (hb8.mono hHeld.size)) fun hHeld=>?_;clear hK K;have hq6:=hb6.size;have hq8:=hb8.size
       (try simp at hq6 hq8)
       exact J _ _ A6 A8 c6 c8 l' _ (Held.below (Held.newAt _ [.string ⟨#[]⟩,.int .i64 0,.int .i64 0] 25 (by first | rfl | simp)) hb8) (Held.below (Held.alloc (Held.newAt _ JB 69 (by first | rfl | simp)) _) hb8) (by (try simp);(try omega)) (by (try simp);(try omega)) (by (try simp);(try omega)) hHeld hpl (wG.below (wG.below (wG.below (wG.more kP (fun b hl h=>by (try simp at h hl⊢)<;>omega)) ((Below.refl _ _).alloc (Nat.le_refl _) _)) ((Below.refl _ _).alloc (Nat.le_refl _) _)) hb8) (Reads.more Wu (fun b hl h=>by (try simp at h hl⊢)<;>omega))
 · go_simp
   refine Zc hK (Below.alloc hHeld hHeld.size _) fun hHeld=>?_;clear hK K;refine ZN 2 7 (fun K hK=>?_) fun K hK=>?_
   · go_simp
     (go_at_call 15;refine (Zy (fun _=>True) l Al cl _ (hF.rl.below hHeld) hF.ll hF.pl).mono ?_;rintro e w6 ⟨l',A6,c6,hpl,rfl,kP,hb6⟩)
     refine Zc hK (hHeld.trans (hb6.mono hHeld.size)) fun hHeld=>?_;clear hK K;refine ZN 5 7 (fun K hK=>?_) fun K hK=>?_
     · go_simp
       (go_at_call 26;refine (Zo (fun _=>True) x.x x.a x.c _ (Reads.below hF.rx hHeld) hF.fit).mono ?_;rintro e w8 ⟨A8,c8,rfl,Wu,hb8⟩)
       refine Zc hK (hHeld.trans (hb8.mono hHeld.size)) fun hHeld=>?_;clear hK K;refine tr 7 fun K hK=>?_;go_simp;refine Zc hK (Below.alloc hHeld hHeld.size _) fun hHeld=>?_;clear hK K;have hq6:=hb6.size;have hq8:=hb8.size
       (try simp at hq6 hq8)
       exact J _ _ A6 A8 c6 c8 l' _ (Held.alloc (Held.below (Held.below (Held.drew (Held.newAt _ [.string ⟨#[]⟩,.int .i64 0,.int .i64 0] 25 (by first | rfl | simp))) hb6) hb8) _) (Held.newAt _ JB 69 (by first | rfl | simp)) (by (try simp);(try omega)) (by (try simp);(try omega)) (by (try simp);(try omega)) hHeld hpl (wG.below (wG.below (wG.more kP (fun b hl h=>by (try simp at h hl⊢)<;>omega)) hb8) ((Below.refl _ _).alloc (Nat.le_refl _) _)) (Reads.alloc (Reads.more Wu (fun b hl h=>by (try simp at h hl⊢)<;>omega)) _)
     · go_simp
       refine Zc hK (Below.alloc hHeld hHeld.size _) fun hHeld=>?_;clear hK K;refine tr 5 fun K hK=>?_;go_simp
       (go_at_call 26;refine (Zo (fun _=>True) x.x x.a x.c _ (Reads.below hF.rx hHeld) hF.fit).mono ?_;rintro e w8 ⟨A8,c8,rfl,Wu,hb8⟩)
       refine Zc hK (hHeld.trans (hb8.mono hHeld.size)) fun hHeld=>?_;clear hK K;have hq6:=hb6.size;have hq8:=hb8.size
       (try simp at hq6 hq8)
       exact J _ _ A6 A8 c6 c8 l' _ (Held.below (Held.alloc (Held.below (Held.drew (Held.newAt _ [.string ⟨#[]⟩,.int .i64 0,.int .i64 0] 25 (by first | rfl | simp))) hb6) _) hb8) (Held.below (Held.newAt _ JB 69 (by first | rfl | simp)) hb8) (by (try simp);(try omega)) (by (try simp);(try omega)) (by (try simp);(try omega)) hHeld hpl (wG.below (wG.below (wG.more kP (fun b hl h=>by (try simp at h hl⊢)<;>omega)) ((Below.refl _ _).alloc (Nat.le_refl _) _)) hb8) (Reads.more Wu (fun b hl h=>by (try simp at h hl⊢)<;>omega))
   · go_simp
     refine Zc hK (Below.alloc hHeld hHeld.size _) fun hHeld=>?_;clear hK K;refine tr 2 fun K hK=>?_;go_simp
     (go_at_call 15;refine (Zy (fun _=>True) l Al cl _ (hF.rl.below hHeld) hF.ll hF.pl).mono ?_;rintro e w6 ⟨l',A6,c6,hpl,rfl,kP,hb6⟩)
     refine Zc hK (hHeld.trans (hb6.mono hHeld.size)) fun hHeld=>?_;clear hK K;refine tr 5 fun K hK=>?_;go_simp
     (go_at_call 26;refine (Zo (fun _=>True) x.x x.a x.c _ (Reads.below hF.rx hHeld) hF.fit).mono ?_;rintro e w8 ⟨A8,c8,rfl,Wu,hb8⟩)
     refine Zc hK (hHeld.trans (hb8.mono hHeld.size)) fun hHeld=>?_;clear hK K;have hq6:=hb6.size;have hq8:=hb8.size
     (try simp at hq6 hq8)
     exact J _ _ A6 A8 c6 c8 l' _ (Held.below (Held.below (Held.drew (Held.alloc (Held.newAt _ [.string ⟨#[]⟩,.int .i64 0,.int .i64 0] 25 (by first | rfl | simp)) _)) hb6) hb8) (Held.below (Held.below (Held.drew (Held.newAt _ JB 69 (by first | rfl | simp))) hb6) hb8) (by (try simp);(try omega)) (by (try simp);(try omega)) (by (try simp);(try omega)) hHeld hpl (wG.below (wG.more kP (fun b hl h=>by (try simp at h hl⊢)<;>omega)) hb8) (Reads.more Wu (fun b hl h=>by (try simp at h hl⊢)<;>omega))
 · go_simp
   refine Zc hK (Below.alloc hHeld hHeld.size _) fun hHeld=>?_;clear hK K;refine ZN 2 6 (fun K hK=>?_) fun K hK=>?_
   · go_simp
     (go_at_call 15;refine (Zy (fun _=>True) l Al cl _ (hF.rl.below hHeld) hF.ll hF.pl).mono ?_;rintro e w6 ⟨l',A6,c6,hpl,rfl,kP,hb6⟩)
     refine Zc hK (hHeld.trans (hb6.mono hHeld.size)) fun hHeld=>?_;clear hK K;refine ZN 5 6 (fun K hK=>?_) fun K hK=>?_
     · go_simp
       (go_at_call 26;refine (Zo (fun _=>True) x.x x.a x.c _ (Reads.below hF.rx hHeld) hF.fit).mono ?_;rintro e w8 ⟨A8,c8,rfl,Wu,hb8⟩)
       refine Zc hK (hHeld.trans (hb8.mono hHeld.size)) fun hHeld=>?_;clear hK K;refine tr 6 fun K hK=>?_;go_simp;refine Zc hK (Below.alloc hHeld hHeld.size _) fun hHeld=>?_;clear hK K;have hq6:=hb6.size;have hq8:=hb8.size
       (try simp at hq6 hq8)
       exact J _ _ A6 A8 c6 c8 l' _ (Held.newAt _ [.string ⟨#[]⟩,.int .i64 0,.int .i64 0] 25 (by first | rfl | simp)) (Held.alloc (Held.below (Held.below (Held.drew (Held.newAt _ JB 69 (by first | rfl | simp))) hb6) hb8) _) (by (try simp);(try omega)) (by (try simp);(try omega)) (by (try simp);(try omega)) hHeld hpl (wG.below (wG.below (wG.more kP (fun b hl h=>by (try simp at h hl⊢)<;>omega)) hb8) ((Below.refl _ _).alloc (Nat.le_refl _) _)) (Reads.alloc (Reads.more Wu (fun b hl h=>by (try simp at h hl⊢)<;>omega)) _)
     · go_simp
       refine Zc hK (Below.alloc hHeld hHeld.size _) fun hHeld=>?_;clear hK K;refine tr 5 fun K hK=>?_;go_simp
       (go_at_call 26;refine (Zo (fun _=>True) x.x x.a x.c _ (Reads.below hF.rx hHeld) hF.fit).mono ?_;rintro e w8 ⟨A8,c8,rfl,Wu,hb8⟩)
       refine Zc hK (hHeld.trans (hb8.mono hHeld.size)) fun hHeld=>?_;clear hK K;have hq6:=hb6.size;have hq8:=hb8.size
       (try simp at hq6 hq8)
       exact J _ _ A6 A8 c6 c8 l' _ (Held.below (Held.newAt _ [.string ⟨#[]⟩,.int .i64 0,.int .i64 0] 25 (by first | rfl | simp)) hb8) (Held.below (Held.alloc (Held.below (Held.drew (Held.newAt _ JB 69 (by first | rfl | simp))) hb6) _) hb8) (by (try simp);(try omega)) (by (try simp);(try omega)) (by (try simp);(try omega)) hHeld hpl (wG.below (wG.below (wG.more kP (fun b hl h=>by (try simp at h hl⊢)<;>omega)) ((Below.refl _ _).alloc (Nat.le_refl _) _)) hb8) (Reads.more Wu (fun b hl h=>by (try simp at h hl⊢)<;>omega))
   · go_simp
     refine Zc hK (Below.alloc hHeld hHeld.size _) fun hHeld=>?_;clear hK K;refine tr 2 fun K hK=>?_;go_simp
     (go_at_call 15;refine (Zy (fun _=>True) l Al cl _ (hF.rl.below hHeld) hF.ll hF.pl).mono ?_;rintro e w6 ⟨l',A6,c6,hpl,rfl,kP,hb6⟩)
     refine Zc hK (hHeld.trans (hb6.mono hHeld.size)) fun hHeld=>?_;clear hK K;refine tr 5 fun K hK=>?_;go_simp
     (go_at_call 26;refine (Zo (fun _=>True) x.x x.a x.c _ (Reads.below hF.rx hHeld) hF.fit).mono ?_;rintro e w8 ⟨A8,c8,rfl,Wu,hb8⟩)
     refine Zc hK (hHeld.trans (hb8.mono hHeld.size)) fun hHeld=>?_;clear hK K;have hq6:=hb6.size;have hq8:=hb8.size
     (try simp at hq6 hq8)
     exact J _ _ A6 A8 c6 c8 l' _ (Held.below (Held.below (Held.drew (Held.newAt _ [.string ⟨#[]⟩,.int .i64 0,.int .i64 0] 25 (by first | rfl | simp))) hb6) hb8) (Held.below (Held.below (Held.drew (Held.alloc (Held.newAt _ JB 69 (by first | rfl | simp)) _)) hb6) hb8) (by (try simp);(try omega)) (by (try simp);(try omega)) (by (try simp);(try omega)) hHeld hpl (wG.below (wG.more kP (fun b hl h=>by (try simp at h hl⊢)<;>omega)) hb8) (Reads.more Wu (fun b hl h=>by (try simp at h hl⊢)<;>omega))
theorem aGJ (W0:World) (r:M.Rules) (l:List Sh) (Al:Option Addr) (cl:Nat) (n:Int) (x:Sh) (HG:Hid (Glob W0)) (HN:Hid (aAP W0 r l Al cl n x)):aAI W0 r l Al cl n x:=by
 dsimp only [aAI,COQ]
 intros
 rename_i W hf
 dsimp only [ZW,dQ,Tryz.f13,Option.getD]
 have hE:=hf;obtain ⟨hA,B7,A8,c8,l',B9,A9,c9,rfl,h7,rfl,hpl,h8,rfl,h9,hp9⟩:=id hE;have hA':=hA;obtain ⟨rfl,rfl,rfl,h3,h5,hl,hx,ao1,aoU,hfit,hbw⟩:=hA';have k0:=h3.cell (j:=0) rfl;have HG9:=hide (HG.out.below hbw);apply wp_seq_k;intro K hK;have HK:=hide hK;clear hK;apply wp_seq_k;intro K2 hK2;have PD:=hide hK2;clear hK2
 by_cases hg:60<r.game.size
 · have hg':(60:Int)<(r.game.size:Int):=by omega
   go_wp2_with (first | (refine aN 69 (.tmp 9) rfl ?_;refine aG (h9') Tryz.underlying69 rfl Zi rfl (.tmp 9) rfl rfl ?_) | (refine aN 69 (.tmp 9) rfl ?_;refine su (h9') Tryz.underlying69 rfl Zi rfl (.tmp 9) rfl rfl ?_) | (refine vg 69 (.tmp 9) rfl ?_;refine sD (h9') Tryz.underlying69 rfl Zi (.tmp 9) rfl rfl ?_) | (go_at_call 16;refine (Z5 _ l' A8 c8 30 _ h8).mono ?_;rw [hpl,hd2];rintro e w2 ⟨rfl,hb2⟩;have HG9:=hide (HG9.out.below hb2);have h9':=h9.below hb2;dsimp only) | (go_at_call 27;refine (ZB x.x A9 c9 _ (jl.bd hp9).2.2).mono ?_;rw [hd3];rintro e w3 ⟨rfl,hb3⟩;have HG9:=hide (HG9.out.below hb3);dsimp only))
   refine PD.out _ _ ?_
   go_wp2_with (first | (go_at_call 17;refine (QJ _ HG9.out).mono ?_;rintro e w9 ⟨rfl,U6⟩;dsimp only))
   go_ret;exact ⟨rfl,VY hbw U6⟩
 · have hg':¬ (60:Int)<(r.game.size:Int):=by omega
   obtain ⟨sb,hd2⟩:∃ q,abn (plain l) 30=q:=⟨_,rfl⟩
   cases sb with
   | true=>
     obtain ⟨sx,hd3⟩:∃ q,decide (x.x.kind.size≤60∧x.x.aA.length≤18)=q:=⟨_,rfl⟩
     cases sx with
     | true=>
       go_wp2_with (first | (refine aN 69 (.tmp 9) rfl ?_;refine aG (h9') Tryz.underlying69 rfl Zi rfl (.tmp 9) rfl rfl ?_) | (refine aN 69 (.tmp 9) rfl ?_;refine su (h9') Tryz.underlying69 rfl Zi rfl (.tmp 9) rfl rfl ?_) | (refine vg 69 (.tmp 9) rfl ?_;refine sD (h9') Tryz.underlying69 rfl Zi (.tmp 9) rfl rfl ?_) | (go_at_call 16;refine (Z5 _ l' A8 c8 30 _ h8).mono ?_;rw [hpl,hd2];rintro e w2 ⟨rfl,hb2⟩;have HG9:=hide (HG9.out.below hb2);have h9':=h9.below hb2;dsimp only) | (go_at_call 27;refine (ZB x.x A9 c9 _ (jl.bd hp9).2.2).mono ?_;rw [hd3];rintro e w3 ⟨rfl,hb3⟩;have HG9:=hide (HG9.out.below hb3);dsimp only))
       refine PD.out _ _ ?_;go_wp2;refine HK.out _ _ ?_;apply HN.out;exact (hE.below hb2).below hb3
     | false=>
       go_wp2_with (first | (refine aN 69 (.tmp 9) rfl ?_;refine aG (h9') Tryz.underlying69 rfl Zi rfl (.tmp 9) rfl rfl ?_) | (refine aN 69 (.tmp 9) rfl ?_;refine su (h9') Tryz.underlying69 rfl Zi rfl (.tmp 9) rfl rfl ?_) | (refine vg 69 (.tmp 9) rfl ?_;refine sD (h9') Tryz.underlying69 rfl Zi (.tmp 9) rfl rfl ?_) | (go_at_call 16;refine (Z5 _ l' A8 c8 30 _ h8).mono ?_;rw [hpl,hd2];rintro e w2 ⟨rfl,hb2⟩;have HG9:=hide (HG9.out.below hb2);have h9':=h9.below hb2;dsimp only) | (go_at_call 27;refine (ZB x.x A9 c9 _ (jl.bd hp9).2.2).mono ?_;rw [hd3];rintro e w3 ⟨rfl,hb3⟩;have HG9:=hide (HG9.out.below hb3);dsimp only))
       refine PD.out _ _ ?_
       go_wp2_with (first | (go_at_call 17;refine (QJ _ HG9.out).mono ?_;rintro e w9 ⟨rfl,U6⟩;dsimp only))
       go_ret;exact ⟨rfl,VY (VY (VY hbw hb2) hb3) U6⟩
   | false=>
     go_wp2_with (first | (refine aN 69 (.tmp 9) rfl ?_;refine aG (h9') Tryz.underlying69 rfl Zi rfl (.tmp 9) rfl rfl ?_) | (refine aN 69 (.tmp 9) rfl ?_;refine su (h9') Tryz.underlying69 rfl Zi rfl (.tmp 9) rfl rfl ?_) | (refine vg 69 (.tmp 9) rfl ?_;refine sD (h9') Tryz.underlying69 rfl Zi (.tmp 9) rfl rfl ?_) | (go_at_call 16;refine (Z5 _ l' A8 c8 30 _ h8).mono ?_;rw [hpl,hd2];rintro e w2 ⟨rfl,hb2⟩;have HG9:=hide (HG9.out.below hb2);have h9':=h9.below hb2;dsimp only) | (go_at_call 27;refine (ZB x.x A9 c9 _ (jl.bd hp9).2.2).mono ?_;rw [hd3];rintro e w3 ⟨rfl,hb3⟩;have HG9:=hide (HG9.out.below hb3);dsimp only))
     refine PD.out _ _ ?_
     go_wp2_with (first | (go_at_call 17;refine (QJ _ HG9.out).mono ?_;rintro e w9 ⟨rfl,U6⟩;dsimp only))
     go_ret;exact ⟨rfl,VY (VY hbw hb2) U6⟩
theorem aGQ (W0:World) (r:M.Rules) (l:List Sh) (Al:Option Addr) (cl:Nat) (n:Int) (x:Sh) (HG:Hid (Glob W0)) (HN:Hid (aAW W0 r l Al cl n x)):aAP W0 r l Al cl n x:=by
 dsimp only [aAP,COQ]
 intros
 rename_i W hf
 dsimp only [ZW,dQ,Tryz.f13,Option.getD]
 have hE:=hf;obtain ⟨hA,B7,A8,c8,l',B9,A9,c9,rfl,h7,rfl,hpl,h8,rfl,h9,hp9⟩:=id hE;have hA':=hA;obtain ⟨rfl,rfl,rfl,h3,h5,hl,hx,ao1,aoU,hfit,hbw⟩:=hA';have hcl:=akU (fun _=>True) (fun _=>True) l Al cl n x.x x.a x.c W hl hx;have JF:=hide hcl;have k0:=h5.cell (j:=0) rfl;have h51:W.rangeAt (W0.heap.size+1) 1 (au x):=fun j v hj=>h5.cell (j:=1+j) (by rw [Nat.add_comm,List.getElem?_cons_succ];exact hj);clear hcl;apply wp_seq_k;intro K hK;have HK:=hide hK;clear hK
 go_wp2_with (first | (refine aN 66 (.tmp 44) rfl ?_;refine jh (g:=W0.heap.size+1) (o:=1) h51 Tryz.underlying66 rfl aV rfl (.tmp 44) rfl rfl ?_) | (go_at_call 55;refine JF.out.mono ?_;rintro e w1 ⟨L,A1,c1,rfl,hL,hr1,hb1⟩;dsimp only))
 refine HK.out _ _ ?_;apply HN.out;exact ⟨hE.below hb1,⟨L,A1,c1,rfl,hL,hr1⟩,rfl⟩
theorem aGX (W0:World) (r:M.Rules) (l:List Sh) (Al:Option Addr) (cl:Nat) (n:Int) (x:Sh) (HG:Hid (Glob W0)) (HN:Hid (aA3 W0 r l Al cl n x)):aAW W0 r l Al cl n x:=by
 dsimp only [aAW,COQ]
 intros
 rename_i W hf
 dsimp only [ZW,dQ,Tryz.f13,Option.getD]
 obtain ⟨hE,h10,rfl⟩:=hf;obtain ⟨hA,B7,A8,c8,l',B9,A9,c9,rfl,h7,rfl,hpl,h8,rfl,h9,hp9⟩:=id hE;have hA':=hA;obtain ⟨rfl,rfl,rfl,h3,h5,hl,hx,ao1,aoU,hfit,hbw⟩:=hA';have hcl:=aeJ (fun _=>True) l' A8 c8 W h8;rw [hpl] at hcl;have JF:=hide hcl;clear hcl;apply wp_seq_k;intro K hK;have HK:=hide hK;clear hK
 go_wp2_with (first | (go_at_call 41;refine JF.out.mono ?_;rintro e w1 ⟨rfl,hb1⟩;dsimp only))
 refine HK.out _ _ ?_;apply HN.out;exact ⟨hE.below hb1,⟨h10.below hb1,rfl⟩,rfl⟩
theorem aG4 (W0:World) (r:M.Rules) (l:List Sh) (Al:Option Addr) (cl:Nat) (n:Int) (x:Sh) (HG:Hid (Glob W0)) (HN:Hid (aBa W0 r l Al cl n x)):aA3 W0 r l Al cl n x:=by
 dsimp only [aA3,COQ]
 intros
 rename_i W hf
 dsimp only [ZW,dQ,Tryz.f13,Option.getD]
 obtain ⟨hE,⟨h10,rfl⟩,rfl⟩:=hf;obtain ⟨hA,B7,A8,c8,l',B9,A9,c9,rfl,h7,rfl,hpl,h8,rfl,h9,hp9⟩:=id hE;have hA':=hA;obtain ⟨rfl,rfl,rfl,h3,h5,hl,hx,ao1,aoU,hfit,hbw⟩:=hA';have k0:=h5.cell (j:=0) rfl;apply wp_seq_k;intro K hK;have HK:=hide hK;clear hK;go_wp2;refine HK.out _ _ ?_;apply wp_seq_k;intro K2 hK2;have PD:=hide hK2;clear hK2;apply wp_seq_k;intro K3 hK3;have HK3:=hide hK3;clear hK3
 by_cases h0:M.je (plain l)=0
 · have hlen:=((M.Zt _).1 h0).1
   rw [eF] at hlen
   have hl':l'.length≤1000:=by have:=congrArg List.length hpl;rw [eF,eF] at this;omega
   have hcl:=aiB (fun _=>True) (fun _=>True) l' A8 c8 n x.x A9 c9 W h8 hp9 hl'
   have e1:aa6 (plain l) n x.x=pcE (plain l) n x.x:=by rw [abY,if_pos h0]
   have e2:ar8 (plain l) n x.x=pcM (plain l) n x.x:=by unfold ar8 pcM;rw [e1]
   rw [hpl,e1,e2] at hcl;have JF:=hide hcl
   have q0:(M.je (plain l) == 0)=true:=by simpa using h0
   clear hcl e1 e2 hlen hl' h0;go_wp2;refine HK3.out _ _ ?_
   go_wp2_with (first | (refine aN 69 (.tmp 9) rfl ?_;refine aG (h9) Tryz.underlying69 rfl Zi rfl (.tmp 9) rfl rfl ?_) | (go_at_call 56;refine JF.out.mono ?_;rintro e w1 ⟨L,A1,c1,rfl,hL,hr1,hb1⟩;dsimp only))
   refine PD.out _ _ ?_;apply HN.out;exact ⟨hE.below hb1,⟨h10.below hb1,rfl⟩,rfl,⟨L,A1,c1,rfl,hL,hr1⟩⟩
 · have q0:(M.je (plain l) == 0)=false:=by simpa using h0
   have e1:M.je (plain l)=pcE (plain l) n x.x:=by rw [abY,if_neg h0]
   have e2:pcM (plain l) n x.x=[]:=if_neg (by rw [← e1];exact h0);have HE:=hide (And.intro e1 e2);clear e1 e2 h0;go_wp2;refine HK3.out _ _ ?_;go_wp2;refine PD.out _ _ ?_;apply HN.out;exact ⟨hE,⟨h10,rfl⟩,by rw [HE.out.1],by rw [HE.out.2];exact ⟨[],none,0,rfl,rfl,Reads.none_ _ _ _,fun e he=>by cases he⟩⟩
theorem aHb (W0:World) (r:M.Rules) (l:List Sh) (Al:Option Addr) (cl:Nat) (n:Int) (x:Sh) (HG:Hid (Glob W0)) (HN:Hid (atT W0 r l Al cl n x)):aBa W0 r l Al cl n x:=by
 dsimp only [aBa,COQ]
 intros
 rename_i W hf
 dsimp only [ZW,dQ,Tryz.f13,Option.getD]
 obtain ⟨hE,⟨h10,rfl⟩,rfl,h13⟩:=hf;have hA:=hE.1;have hq10:=h10;obtain ⟨L10,Yv,c10,rfl,azf,r10⟩:=h10;obtain ⟨L13,A13,c13,rfl,aHp,r13⟩:=h13;obtain ⟨f1,f2⟩:=aq6 azf (by rw [← eF l];exact ak1 _ _ _) (fun e he=>ak8 e he) hA.pl hA.ll hA.fit;have hsh:=Zy (fun _=>True) L10 Yv c10 W r10 f1 f2;have HSH:=hide hsh;obtain ⟨E,hEE⟩:∃ q,(pcE (plain l) n x.x)=q:=⟨_,rfl⟩
 have q1:(E != E)=false:=by simp
 have HEE:=hide hEE;rw [hEE];clear hsh f1 f2 hEE;apply wp_seq_k;intro K hK;have HK:=hide hK;clear hK;apply wp_seq_k;intro K2 hK2;have PD:=hide hK2;clear hK2
 go_wp2_with (first | (go_at_call 15;refine HSH.out.mono ?_;rintro e w1 ⟨m',A1,c1,hm',rfl,hr1,hb1⟩;have aIq:=r13.below hb1;have hmm:plain m'=plain L13:=hm'.trans (azf.trans aHp.symm);dsimp only) | (go_at_call 57;refine (ajo _ _ m' L13 A1 A13 c1 c13 _ hr1 aIq hmm).mono ?_;rintro e w2 ⟨rfl,hb2⟩;dsimp only))
 refine PD.out _ _ ?_;go_wp2;refine HK.out _ _ ?_;apply HN.out;exact ⟨(hE.below hb1).below hb2,(hq10.below hb1).below hb2,by rw [HEE.out]⟩
theorem aCS (W0:World) (r:M.Rules) (l:List Sh) (Al:Option Addr) (cl:Nat) (n:Int) (x:Sh) (HG:Hid (Glob W0)) (HN:Hid (at1 W0 r l Al cl n x)):atT W0 r l Al cl n x:=by
 dsimp only [atT,COQ]
 intros
 rename_i W hf
 dsimp only [ZW,dQ,Tryz.f13,Option.getD]
 obtain ⟨hE,h10,rfl⟩:=hf;have hA:=hE.1;have hl:=hA.rl;have e1:=hA.e1;subst e1;obtain ⟨L10,Yv,c10,rfl,azf,r10⟩:=h10;apply wp_seq_k;intro K hK;have HK:=hide hK;clear hK;go_wp2;refine HK.out _ _ ?_;apply wp_seq_k;intro K2 hK2;have PD:=hide hK2;clear hK2
 by_cases h0:pcE (plain l) n x.x=0
 · have q0:(pcE (plain l) n x.x == 0)=true:=by simpa using h0
   have HO:=hide (show coO l n x.x=pcM (plain l) n x.x from if_pos h0);clear h0;go_wp2;refine PD.out _ _ ?_;apply HN.out;exact ⟨hE,⟨L10,Yv,c10,rfl,by rw [HO.out];exact azf,r10⟩⟩
 · have q0:(pcE (plain l) n x.x == 0)=false:=by simpa using h0
   have HO:=hide (show coO l n x.x=plain l from if_neg h0);clear h0;go_wp2;refine PD.out _ _ ?_;apply HN.out;exact ⟨hE,⟨l,Al,cl,rfl,HO.out.symm,hl⟩⟩
theorem aCZ (W0:World) (r:M.Rules) (l:List Sh) (Al:Option Addr) (cl:Nat) (n:Int) (x:Sh) (HG:Hid (Glob W0)) (HN:Hid (aue W0 r l Al cl n x)):at1 W0 r l Al cl n x:=by
 dsimp only [at1,COQ]
 intros
 rename_i W hf
 dsimp only [ZW,dQ,Tryz.f13,Option.getD]
 obtain ⟨hE,Xo⟩:=hf;have aHY:=Xo;obtain ⟨hA,B7,A8,c8,l',B9,A9,c9,rfl,h7,rfl,hpl,h8,rfl,h9,hp9⟩:=id hE;have hA':=hA;obtain ⟨rfl,rfl,rfl,h3,h5,hl,hx,ao1,aoU,hfit,hbw⟩:=hA';obtain ⟨L14,Yx,c14,rfl,asq,r14⟩:=Xo;have hcl:=akN r l L14 Al Yx cl c14 W hl r14
 have e1:as3 r (plain l) (plain L14)=wP r l:=by
  rw [asq]
  unfold as3
  by_cases h0:wP r l=0
  · have h1:=(am2 (show aU [M.aH r,M.je (plain l)]=0 from h0)).2
    rw [aqi h1]
    show aU [wP r l,0]=wP r l
    rw [h0];rfl
  · show aU [wP r l,_]=wP r l
    unfold aU;rw [if_pos h0]
 have e2:axy r (plain l) (plain L14)=coV r l n x.x:=by
  unfold axy coV
  rw [e1,asq]
 rw [e1,e2] at hcl;have JF:=hide hcl;clear hcl e1 e2;apply wp_seq_k;intro K hK;have HK:=hide hK;clear hK
 go_wp2_with (first | (refine aN 23 (.tmp 3) rfl ?_;refine aG (h3) Tryz.underlying23 rfl kV rfl (.tmp 3) rfl rfl ?_) | (go_at_call 58;refine JF.out.mono ?_;rintro e w1 ⟨rfl,hb1⟩;dsimp only))
 refine HK.out _ _ ?_;apply HN.out;exact ⟨hE.below hb1,aHY.below hb1,rfl,rfl⟩
theorem aC6 (W0:World) (r:M.Rules) (l:List Sh) (Al:Option Addr) (cl:Nat) (n:Int) (x:Sh) (HG:Hid (Glob W0)) (HN:Hid (aul W0 r l Al cl n x)):aue W0 r l Al cl n x:=by
 dsimp only [aue,COQ]
 intros
 rename_i W hf
 dsimp only [ZW,dQ,Tryz.f13,Option.getD]
 obtain ⟨hE,Xo,rfl,rfl⟩:=hf;obtain ⟨hA,B7,A8,c8,l',B9,A9,c9,rfl,h7,rfl,hpl,h8,rfl,h9,hp9⟩:=id hE;have hA':=hA;obtain ⟨rfl,rfl,rfl,h3,h5,hl,hx,ao1,aoU,hfit,hbw⟩:=hA';apply wp_seq_k;intro K hK;have HK:=hide hK;clear hK
 go_wp2_with (first | (refine aN 25 (.tmp 7) rfl ?_;refine aG (h7) Tryz.underlying25 rfl Z4 rfl (.tmp 7) rfl rfl ?_) | (refine aN 25 (.tmp 7) rfl ?_;refine su (h7) Tryz.underlying25 rfl Z4 rfl (.tmp 7) rfl rfl ?_) | (refine vg 25 (.tmp 7) rfl ?_;refine sD (h7) Tryz.underlying25 rfl Z4 (.tmp 7) rfl rfl ?_) | (go_at_call 20;refine (ah5 _ r l' A8 c8 _ h8).mono ?_;rw [hpl];rintro e w3 ⟨rfl,hb3⟩;dsimp only))
 refine HK.out _ _ ?_;apply HN.out;exact ⟨hE.below hb3,Xo.below hb3,⟨rfl,rfl⟩,rfl⟩
theorem aDd (W0:World) (r:M.Rules) (l:List Sh) (Al:Option Addr) (cl:Nat) (n:Int) (x:Sh) (HG:Hid (Glob W0)) (HN:Hid (aus W0 r l Al cl n x)):aul W0 r l Al cl n x:=by
 dsimp only [aul,COQ]
 intros
 rename_i W hf
 dsimp only [ZW,dQ,Tryz.f13,Option.getD]
 obtain ⟨hE,Xo,⟨rfl,rfl⟩,rfl⟩:=hf;obtain ⟨hA,B7,A8,c8,l',B9,A9,c9,rfl,h7,rfl,hpl,h8,rfl,h9,hp9⟩:=id hE;have hA':=hA;obtain ⟨rfl,rfl,rfl,h3,h5,hl,hx,ao1,aoU,hfit,hbw⟩:=hA';obtain ⟨L14,Yx,c14,rfl,asq,r14⟩:=Xo;obtain ⟨f1,f2⟩:=aq6 asq (ayN _ _ _) (fun e he=>ayU e he) ao1 aoU hfit;apply wp_seq_k;intro K hK;have HK:=hide hK;clear hK;go_wp2;refine HK.out _ _ ?_;apply wp_seq_k;intro K2 hK2;have PD:=hide hK2;clear hK2
 by_cases h0:wP r l=0
 · have q0:(wP r l == 0)=true:=by simpa using h0
   have hck:=am2 (show aU [M.aH r,M.je (plain l)]=0 from h0);have Fb:M.je (coO l n x.x)=0:=aqi hck.2;have hsh:=fun W' (h:(fun w':World=>Below W.heap.size W w') W')=>Zy (fun _=>True) L14 Yx c14 W' (r14.below h) f1 f2;have hch:=fun W' S m' A1 c1 (h:(fun w':World=>Below W.heap.size W w') W') (hr1:wG W' S A1 c1 m') (hm':plain m'=plain L14)=>ain (fun _=>True) S r l' m' A8 A1 c8 c1 W' (h8.below h) hr1 hck.1 (by rw [hpl];exact hck.2) (by rw [hm',asq];exact Fb);have hv:coV r l n x.x=M.changed r (plain l) (coO l n x.x):=if_pos h0;have Qb:∀ W',(fun w':World=>Below W.heap.size W w') W'→W'.rangeAt B7 0 ([.string r.game,.int .i64 r.target,.int .i64 r.aY]):=fun W' h=>(h7.below h).range;have HSH:=hide hsh;have HCH:=hide hch;have HV:=hide hv;clear hsh hch hv hck Fb h0 f1 f2;go_wp2;refine wp_region_held_drew (S:=(fun w':World=>Below W.heap.size W w')) (by kernel_rfl) ?jw (fun hHeld=>?_)
   case jw=>exact (Below.refl _ _).drew
   refine Zf 0 Qb Tryz.underlying25 ?_;refine tk 1 ?_;refine tk 2 ?_;refine tr 3 fun K hK=>?_;go_simp
   (go_at_call 15;refine (HSH.out _ hHeld).mono ?_;rintro e w1 ⟨m',A1,c1,hm',rfl,hr1,hb1⟩)
   refine Zc hK (hHeld.trans (hb1.mono hHeld.size)) fun hHeld=>?_;clear hK K;refine tr 4 fun K hK=>?_;go_simp
   (go_at_call 59;refine (HCH.out _ _ m' A1 c1 hHeld hr1 hm').mono ?_;rintro e w2 ⟨rfl,hb2⟩)
   refine Zc hK (hHeld.trans (hb2.mono hHeld.size)) fun hHeld=>?_;clear hK K;refine tk 5 ?_;refine wpAnyH_done (by kernel_rfl) ?_ _;refine PD.out _ _ ?_;apply HN.out;exact ⟨VY hbw hHeld,⟨rfl,rfl⟩,rfl,by rw [HV.out, ← asq, ← hm', ← hpl]⟩
 · have q0:(wP r l == 0)=false:=by simpa using h0
   have hv:coV r l n x.x=0:=if_neg h0;have HV:=hide hv;clear hv h0 f1 f2;go_wp2;refine PD.out _ _ ?_;apply HN.out;exact ⟨hbw,⟨rfl,rfl⟩,rfl,by rw [HV.out]⟩
theorem aDk (W0:World) (r:M.Rules) (l:List Sh) (Al:Option Addr) (cl:Nat) (n:Int) (x:Sh) (HG:Hid (Glob W0)):aus W0 r l Al cl n x:=by
 dsimp only [aus,COQ]
 intros
 rename_i W hf
 dsimp only [ZW,dQ,Tryz.f13,Option.getD]
 obtain ⟨hbw,⟨rfl,rfl⟩,rfl,rfl⟩:=hf;have HG9:=hide (HG.out.below hbw);obtain ⟨E,hEE⟩:∃ q,wP r l=q:=⟨_,rfl⟩;obtain ⟨v,hvv⟩:∃ q,coV r l n x.x=q:=⟨_,rfl⟩;rw [hEE,hvv];have q1:(E == E)=true:=beq_self_eq_true _;have q2:(v == v)=true:=beq_self_eq_true _;clear hEE hvv;apply wp_seq_k;intro K hK;have HK:=hide hK;clear hK
 go_wp2_with (first | (go_at_call 17;refine (QJ _ HG9.out).mono ?_;rintro e w9 ⟨rfl,U6⟩;dsimp only))
 refine HK.out _ _ ?_;go_wp2;go_ret;exact ⟨rfl,VY hbw U6⟩
theorem akz (W0:World) (hg:Glob W0) (r:M.Rules) (l:List Sh) (Al:Option Addr) (cl:Nat) (n:Int) (x:Sh) (hl:wG W0 (fun _=>True) Al cl l) (hpl:∀ e∈l,e.x.aA.length*16≤140737488355328) (hll:l.length*80≤140737488355328) (hf:amj W0 x):
 Calls Tryz.prog 13 #[jM r,.slice Al l.length cl,.agg ((.int .i64 n::au x)).toArray] W0 fun e w'=>e= .returned (.bool true)∧Below W0.heap.size W0 w':=by
 have HG:=hide hg;have hall:=aGC W0 r l Al cl n x HG (hide (aGJ W0 r l Al cl n x HG (hide (aGQ W0 r l Al cl n x HG (hide (aGX W0 r l Al cl n x HG (hide (aG4 W0 r l Al cl n x HG (hide (aHb W0 r l Al cl n x HG (hide (aCS W0 r l Al cl n x HG (hide (aCZ W0 r l Al cl n x HG (hide (aC6 W0 r l Al cl n x HG (hide (aDd W0 r l Al cl n x HG (hide (aDk W0 r l Al cl n x HG))))))))))))))))))));have aks:=hide hall;clear hall
 go_enter Tryz.func13,Tryz.ntmps13
 apply wp_seq_k;intro K hK;have HK:=hide hK;clear hK;have hB:=((bU.nil W0).new (by simp) ([.string r.game,.int .i64 r.target,.int .i64 r.aY]) 23).new (by simp) (.int .i64 n::au x) 109;go_wp2;refine HK.out _ _ ?_;have HA:=aks.out;apply HA;exact ⟨rfl,rfl,rfl,hB.bf rfl,hB.get 1 rfl,hl.below hB.bw,Reads.below hf.1 hB.bw,hpl,hll,hf.2,hB.bw⟩
end Go.Proofs.YtelpepbpdojikaaGreatDoor
namespace Go.Proofs.YtelpepbpdojikaaGreatDoor
open Go.RowKit Go.ChangeShapes Go.WideShapes
section
variable {H:Type} {enc:TypeId × Value→H} {W:World}
theorem aCL:Tryz.prog.cellsOf 109=8:=by kernel_rfl
theorem aEz {α:Type} {l:List α} (h:l.length=8):∃ a b c d e f g i,l=[a,b,c,d,e,f,g,i]:=by match l,h with | [a,b,c,d,e,f,g,i],_=>exact ⟨a,b,c,d,e,f,g,i,rfl⟩
theorem axi {n:Nat} {cs:List Value} {x:DataW H × List MemPlace} (h:DataW.trod enc Tryz.prog W 0 (fun _=>true) true n 109 cs=some x) (hw:(x.1.weights Tryz.prog 109).all (· ≤reachBytes)=true):
 ∃ (n:Int) (e:Sh),cs= .int .i64 n::au e∧amj W e:=by
 obtain ⟨y0,y1,m,rfl,hl,h0,h1⟩:=trod_struct2 Tryz.underlying109 h;obtain ⟨a,b,c,d,e,f,g,i,rfl⟩:=aEz (hl.trans aCL);clear h
 simp [aqb,aol] at h0 h1
 rw [DataW.weights.eq_def] at hw
 simp only [Tryz.underlying109,List.map_cons,List.map_nil,DataW.weightsEach] at hw
 have hw1:=Zn (Zg hw);obtain ⟨z0,e0,_,_⟩:=DataW.trod_int Tryz.underlying3 h0;obtain ⟨s,e1,hs⟩:=ajX _ _ _ h1 hw1
 cases e0
 exact ⟨z0,s,by rw [e1],hs⟩
variable {b0:Nat} {v:Value} {d:DataW H} {ps:List MemPlace}
theorem ays (hv:Value.okWide Tryz.prog W .any b0 109 v) (h:DataW.Trod enc Tryz.prog W 0 (fun _=>true) true 109 v d ps) (hw:(d.weights Tryz.prog 109).all (· ≤reachBytes)=true):
 ∃ (n:Int) (e:Sh),v= .agg (.int .i64 n::au e).toArray∧amj W e:=by
 obtain ⟨k,hn⟩:=h;obtain ⟨n,e,he,hf⟩:=axi hn hw;exact ⟨n,e,awe (P:=Tryz.prog) Tryz.underlying109 hv he,hf⟩
end
end Go.Proofs.YtelpepbpdojikaaGreatDoor
