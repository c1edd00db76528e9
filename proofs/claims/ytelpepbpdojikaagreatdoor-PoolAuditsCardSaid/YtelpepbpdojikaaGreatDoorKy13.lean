/- Parts of a proof. -/
import Derived.Test.YtelpepbpdojikaaGreatDoorKg31
import Derived.Test.YtelpepbpdojikaaGreatDoorKy11
import Derived.Test.YtelpepbpdojikaaGreatDoorKy14
import Derived.Test.YtelpepbpdojikaaGreatDoorKy3
set_option maxHeartbeats 16000000
set_option maxRecDepth 100000
set_option linter.unusedVariables false
set_option linter.unusedSimpArgs false
namespace Go.Proofs.YtelpepbpdojikaaGreatDoor
open Go.RowKit
theorem wG.aw7 {w6 X:World} {S:Nat→Prop} {A:Option Addr} {c g o:Nat} {l:List Sh} {v:List Value} (h:wG w6 S A c l) (hb:Below w6.heap.size w6 X) (hg:∀ b,b<w6.heap.size→S b→b≠g):wG (X.setCells g o v) S A c l:=
 h.keep (by rw [setCells_size];exact hb.size) fun b i hs hl=>(kN _ _ _ _ (hg b hl hs)).trans (hb.cell (p:=⟨b,i,none⟩) hl)
theorem abC {a b:Int} (h:aU [a,b]=0):a=0∧b=0:=by
 unfold aU at h
 split at h
 · next h1=>exact absurd h h1
 · next h1=>
   have ha:a=0:=by simpa using h1
   refine ⟨ha,?_⟩
   unfold aU at h
   split at h
   · next h2=>exact absurd h h2
   · next h2=>simpa using h2
theorem Zm:(Tryz.prog.info? 25).map (·.size)=some 3:=by kernel_rfl
theorem aCt {r:M.Rules} {l:List M.aI} {k:Nat} (hr:M.aH r=0) (hl:M.je l=0) (hk:k<l.length) (hg:M.legal r (M.TS r l k) l[k]=0):abn r (M.TS r l k) l[k]:=
 ⟨((M.Zt l).1 hl).2 _ (List.getElem_mem hk),hr,auQ hr hl k,M.lawful hg⟩
structure acg (S:Nat→Prop) (r:M.Rules) (pl:List M.aI) (w:World) (B5 k m:Nat) (L:List StE) (A:Option Addr) (c:Nat) (s:M.State) (As:Option Addr) (cs:Nat) (W:World):Prop where
 lst:StL r pl k L
 hr:Held W w.heap.size ([.string r.game,.int .i64 r.target,.int .i64 r.aY]) 25
 hs:Held W B5 (aW s As cs) 42
 rs:bD W (fun b=>(fun b=>((S b∧b<w.heap.size)∨w.heap.size+1≤b)∧b≠B5) b∧(Value.slice A L.length c).ownBlock≠some b) As cs s.ay
 row:ZF 42 (B5+1) (fun b=>((S b∧b<w.heap.size)∨w.heap.size+1≤b)∧b≠B5) L A c W
 lt:w.heap.size<B5
 hse:s=M.TS r pl m
 bw:Below w.heap.size w W
theorem acg.below {S:Nat→Prop} {r:M.Rules} {pl:List M.aI} {w:World} {B5 k m:Nat} {L:List StE} {A:Option Addr} {c:Nat} {s:M.State} {As:Option Addr} {cs:Nat} {W W':World} (h:acg S r pl w B5 k m L A c s As cs W) (hb:Below W.heap.size W W'):acg S r pl w B5 k m L A c s As cs W':=
 ⟨h.lst,h.hr.below hb,h.hs.below hb,h.rs.below hb,h.row.below hb,h.lt,h.hse,VY h.bw hb⟩
theorem acg.drew {S:Nat→Prop} {r:M.Rules} {pl:List M.aI} {w:World} {B5 k m:Nat} {L:List StE} {A:Option Addr} {c:Nat} {s:M.State} {As:Option Addr} {cs:Nat} {W:World} (h:acg S r pl w B5 k m L A c s As cs W):acg S r pl w B5 k m L A c s As cs W.drew:=
 ⟨h.lst,h.hr,h.hs,h.rs,h.row.drew,h.lt,h.hse,h.bw.drew⟩
theorem acg.set {S:Nat→Prop} {r:M.Rules} {pl:List M.aI} {w:World} {B5 k m m':Nat} {L:List StE} {A:Option Addr} {c:Nat} {s t:M.State} {As A3:Option Addr} {cs c3:Nat} {W W3:World} (h:acg S r pl w B5 k m L A c s As cs W) (hb:Below W.heap.size W W3)
 (hr:bD W3 (fun b=>((fun b=>(fun b=>((S b∧b<w.heap.size)∨w.heap.size+1≤b)∧b≠B5) b∧(Value.slice A L.length c).ownBlock≠some b) b∧b<W.heap.size)∨W.heap.size≤b) A3 c3 t.ay) (ht:t=M.TS r pl m'):Held W3 B5 (aW s As cs) 42∧acg S r pl w B5 k m' L A c t A3 c3 (W3.setCells B5 0 (aW t A3 c3)):=by
 have h5:=h.hs.lt;have hl:=h.lt;have hs:=hb.size;refine ⟨h.hs.below hb,h.lst,Held.others (by omega) _ _ _ (h.hr.below hb),(h.hs.below hb).whole _ rfl,bD.sets (fun hx=>hx.1.2 rfl) _ _ _ (bD.more hr (fun b _ hx=>?_)),(h.row.below hb).sets (by omega) (fun hx=>hx.2 rfl) _ _,h.lt,ht,below_setCells _ (by omega) _ _ _ _ (VY h.bw hb)⟩
 rcases hx with hx | hx
 · exact hx.1
 · exact ⟨⟨.inr (by omega),by omega⟩,fun e=>by have:=ayX h.row.own e;omega⟩
noncomputable def apn (n:Nat):Code:=dQ n ((Tryz.f67).body.getD .skip)
@[reducible] def azK (S:Nat→Prop) (r:M.Rules) (l:List Sh) (A0:Option Addr) (c0:Nat) (w:World) (F:Value→Value→Value→Value→World→Prop) (n:Nat):Prop:=∀ (z0 z1 z2 z3 z4 z5 z6 z7 z8 z9 z10 z11 z12 z13 kD kK kF z17 kL jQ z20 z21 z22 z23 z24 z25 z26 z27 z28 z29 z30 z31 z32 z33 z34 z35 z36 z37:Value) (W:World),F z1 z2 z5 z6 W→(apn n).wp Tryz.prog (bodyPost Tryz.prog Tryz.f67 (fun e w'=>∃ L A' c',e= .returned (.slice A' L.length c')∧StL r (plain l) l.length L∧RdT w' (fun b=>(S b∧b<w.heap.size)∨w.heap.size≤b) A' c' L∧Below w.heap.size w w')) {tmps:= #[z0,z1,z2,z3,z4,z5,z6,z7,z8,z9,z10,z11,z12,z13,kD,kK,kF,z17,kL,jQ,z20,z21,z22,z23,z24,z25,z26,z27,z28,z29,z30,z31,z32,z33,z34,z35,z36,z37],defers:=[] } W
@[reducible] def awo (S:Nat→Prop) (r:M.Rules) (l:List Sh) (A0:Option Addr) (c0:Nat) (w:World):Prop:=azK S r l A0 c0 w (fun z1 z2 z5 z6 W=>z1= .slice A0 l.length c0∧z2=ptr w.heap.size∧∃ B5 L A c s As cs,z5=ptr B5∧z6= .slice A (L:List StE).length c∧acg S r (plain l) w B5 0 0 L A c s As cs W) 3
theorem aC2 (S:Nat→Prop) (r:M.Rules) (l:List Sh) (A0:Option Addr) (c0:Nat) (w:World) (HP:Hid (wG w (fun b=>S b∧b<w.heap.size) A0 c0 l)) (wZ:Hid (M.aH r=0∧M.je (plain l)=0)):awo S r l A0 c0 w:=by
 dsimp only [awo,azK]
 intro z0 _ _ z3 z4 _ _ _ z8 z9 z10 z11 z12 z13 kD kK kF z17 kL jQ z20 z21 z22 z23 z24 z25 z26 z27 z28 z29 z30 z31 z32 z33 z34 z35 z36 z37 W hf
 dsimp only [apn,dQ,Tryz.f67,Option.getD]
 obtain ⟨rfl,rfl,B5,L0,Aa,ca,s0,As0,cs0,rfl,rfl,hI⟩:=hf;have hp:=HP.out;obtain ⟨b1,b2,b3⟩:=hp.bd;have hn:=((M.Zt _).1 wZ.out.2).1;rw [eF] at hn;obtain ⟨i0,hi0,hz0,hz1,hz2⟩:=info_parts akG;apply wp_seq_k;intro K1 hK1;have Q9:=hide hK1;clear hK1;apply wp_seq_k;intro K2 hK2;have PD:=hide hK2;clear hK2;go_wp2;refine PD.out _ _ ?_;go_wp2
 go_loopw [6,7] (fun v i wr=>∃ (k:Nat) (L:List StE) (A:Option Addr) (c:Nat) (s:M.State) (As:Option Addr) (cs:Nat),k≤l.length∧i= .int .i64 k∧v= .slice A L.length c∧acg S r (plain l) w B5 k k L A c s As cs wr) (fun _ i=>fun _=>l.length - (intOf i).toNat)
 case atStart=>exact ⟨0,_,_,_,_,_,_,Nat.zero_le _,rfl,rfl,hI⟩
 case round=>
  clear hI;obtain ⟨k,L,A,c,s,As,cs,hk,rfl,rfl,hI⟩:=hrel
  by_cases hlt:k<l.length
  · obtain ⟨b,o,rfl,hSb,hbl,hcs⟩:=Reads.at_ (hp.below hI.bw).1 (by omega)
    have h00:wr.rangeAt b (o+k*7) (au l[k]):=fun j v hj=>by
     have hj7:j<7:=(List.getElem?_eq_some_iff.1 hj).1;rw [Nat.add_assoc];exact hcs _ _ ((jI l k hlt j hj7).trans hj)
    have hpo:=(hp.below hI.bw).aA k hlt;have hNX:=fun hg=>aCt (r:=r) (l:=plain l) (k:=k) wZ.out.1 wZ.out.2 (by rw [eF];exact hlt) hg;rw [← hI.hse,Iu l k hlt] at hNX;have hst1:=aqZ (r:=r) (l:=plain l) (k:=k) (by rw [eF];exact hlt);rw [← hI.hse,Iu l k hlt] at hst1;obtain ⟨e,he⟩:∃ q,l[k]=q:=⟨_,rfl⟩;rw [he] at h00 hpo hNX hst1;have hLE:=fun W' (h:(fun w':World=>Below wr.heap.size wr w') W')=>aks (fun _=>True) r s e.x As e.a cs e.c W' ((bD.more hI.rs (fun _ _ _=>trivial)).below h) (Reads.below (Reads.more hpo (fun _ _ _=>trivial)) h);have QH:=hide hLE;have azp:=hide hst1;have VP:=hide hNX;have UC:=hide hpo;have hr0:∀ W',(fun w':World=>Below wr.heap.size wr w') W'→W'.rangeAt w.heap.size 0 ([.string r.game,.int .i64 r.target,.int .i64 r.aY]):=fun W' h=>(hI.hr.below h).range;have hr1:∀ W',(fun w':World=>Below wr.heap.size wr w') W'→W'.rangeAt B5 0 (aW s As cs):=fun W' h=>(hI.hs.below h).range;have SC:∀ W',(fun w':World=>Below wr.heap.size wr w') W'→W'.rangeAt b (o+k*7) (au e):=fun W' h j v hj=>(h.cell (p:=⟨b,o+k*7+j,none⟩) hbl).trans (h00 j v hj)
    have i1:(0:Int)≤(k:Int):=by omega
    have i2:(k:Int)<(l.length:Int):=by omega
    clear hLE hst1 hNX he hcs hp hpo;have aD3:=hide h00;clear h00;go_wp2;rename_i K8 hK8 KC hKC
    have J:∀ (s2:M.State) (As2:Option Addr) (cs2:Nat) (z12 z13 kD kK kF z17 kL jQ z20 z21 z22 z23 z24 z25 z26 z27 z28 z29 z30 z31 z32 z33 z34 z35 z36:Value) (wx:World),(acg S r (plain l) w B5 k (k+1) L A c s2 As2 cs2 wx)→K8 {tmps:= #[z0,.slice (some ⟨b,o,none⟩) l.length c0,ptr w.heap.size,z3,z4,ptr B5,.slice A L.length c,.int .i64 (k:Int),z8,z9,z10,z11,z12,z13,kD,kK,kF,z17,kL,jQ,z20,z21,z22,z23,z24,z25,z26,z27,z28,z29,z30,z31,z32,z33,z34,z35,z36,z37],defers:=[] } wx:=by
     intro s2 As2 cs2 z12 z13 kD kK kF z17 kL jQ z20 z21 z22 z23 z24 z25 z26 z27 z28 z29 z30 z31 z32 z33 z34 z35 z36 wx hrel;refine hK8 _ _ ?_
     try dsimp only
     have hI:=hrel;have hsx:Held wx B5 [.int .i64 s2.turn,.bool s2.brk,.bool s2.hand,.bool s2.push,.bool s2.pushed,.int .i64 s2.group,.slice As2 s2.ay.length cs2,.int .i64 s2.s0,.int .i64 s2.s1,.int .i64 s2.f0,.int .i64 s2.f1,.int .i64 s2.run,.int .i64 s2.aZ,.bool s2.over,.int .i64 s2.bC] 42:=hI.hs;have hlL:=hI.lst.len;have hltx:=hI.hs.lt;have HLL:=hide hlL
     have hL1:L.length≤1001:=by omega
     clear hlL
     go_wp2_with (first | (refine aN 42 (.tmp 5) rfl ?_;refine aG (hsx) Tryz.underlying42 rfl Zc rfl (.tmp 5) rfl rfl ?_) | (at_builtin;refine wpList_append_lies _ rfl _ _ _ rfl (B5+1) 42 i0 (.agg aj.toArray) 15 112 Tryz.underlying135 hi0 hz0 hz1 hz2 rfl (by omega) _ _ _ rfl (hI.row.own.alloc _) ⟨wx.heap.size,0,none⟩ 1 1 [.int .i64 s2.turn,.bool s2.brk,.bool s2.hand,.bool s2.push,.bool s2.pushed,.int .i64 s2.group,.slice As2 s2.ay.length cs2,.int .i64 s2.s0,.int .i64 s2.s1,.int .i64 s2.f0,.int .i64 s2.f1,.int .i64 s2.run,.int .i64 s2.aZ,.bool s2.over,.int .i64 s2.bC] rfl rfl (dK _ _ _ _ rfl) (dL s2 As2 cs2) (by omega) (by simp only [maxLen];omega) (by omega) (by simp;omega) (wx.heap.size+1) (by simp) ?_))
     intro g1 cap w4 hown4 hgrow hat _;have hge:∀ g,(Value.slice A L.length c).ownBlock=some g→B5+1≤g:=fun g hg=>(bg hI.row.own hg).1;have hl5:=hI.lt
     have hI4:acg S r (plain l) w B5 (k+1) (k+1) (L++[⟨s2,As2,cs2⟩]) (some ⟨g1,0,none⟩) cap s2 As2 cs2 w4:=by
      have hl1:(L++[(⟨s2,As2,cs2⟩:StE)]).length=L.length+1:=by simp
      refine ⟨hI.lst.snoc hI.hse,hI.hr.blk (ahK hgrow (by omega) (fun e=>by have:=hge _ e;omega)),hI.hs.blk (ahK hgrow hltx (fun e=>by have:=hge _ e;omega)),?_,hI.row.append (x:=⟨s2,As2,cs2⟩) hI.rs hgrow hown4 hat,hI.lt,hI.hse,hI.bw.trans (ap4 hgrow (fun g hg=>by have:=hge g hg;omega) hI.bw.size)⟩;rw [hl1];exact ZF.apart hgrow hat hI.rs
     have HI4:=hide hI4;clear hI4 hown4 hgrow hge hat hI hrel hsx;go_wp2
     go_roundw
     case rel=>exact ⟨k+1,L++[⟨s2,As2,cs2⟩],some ⟨g1,0,none⟩,cap,s2,As2,cs2,by omega,by go_num,by simp,HI4.out⟩
     case measure=>simp [intOf];omega
    clear hK8;have HJ:=hide J;clear J
    by_cases Vb:M.legal r s e.x=0
    · have q1:(M.legal r s e.x == 0)=true:=by simpa using Vb
      have HLG:=hide Vb;clear Vb;refine wp_region_held_drew (S:=(fun w':World=>Below wr.heap.size wr w')) (by kernel_rfl) ?jw (fun hHeld=>?_)
      case jw=>exact (Below.refl _ _).drew
      refine Zf 0 hr0 Tryz.underlying25 ?_;refine Zf 1 hr1 Tryz.underlying42 ?_;refine tk 2 ?_;refine tk 3 ?_;refine tk 4 ?_;refine Zf 5 SC Tryz.underlying69 ?_;refine tr 6 fun K hK=>?_;go_simp
      (go_at_call 46;refine (QH.out _ hHeld).mono ?_;rintro e w2 ⟨rfl,hb2⟩)
      refine Zd hK (hHeld.trans (hb2.mono hHeld.size)) fun hHeld=>?_;clear hK K;refine tk 7 ?_;refine wpAnyH_done (by kernel_rfl) ?_ _;refine hKC _ _ ?_;refine wp_cond_true rfl ?_;refine ZA (p:=fun W=>Code.wp _ _ _ _ W) (fun wz hwz=>?_)
      have hHz:Below wr.heap.size wr wz:=by rw [hwz];exact hHeld
      clear hwz hHeld;have hIz:=hI.below hHz;clear hr0 hr1 SC hb2 QH
      obtain ⟨tn,htn⟩:∃ q,M.next r s e.x=q:=⟨_,rfl⟩
      have hpo:=UC.out.below hHz;have hge:∀ g,(Value.slice A L.length c).ownBlock=some g→B5+1≤g:=fun g hg=>(bg hI.row.own hg).1;have hl5:=hI.lt;have hnx:=fun W' (h:Below wz.heap.size wz W')=>amj (fun b=>(fun b=>((S b∧b<w.heap.size)∨w.heap.size+1≤b)∧b≠B5) b∧(Value.slice A L.length c).ownBlock≠some b) r s e.x As e.a cs e.c W' (hIz.rs.below h) (Reads.below (Reads.more hpo (fun b _ h=>⟨⟨.inl h,by omega⟩,fun e=>by have:=hge _ e;omega⟩)) h) (VP.out HLG.out);rw [htn] at hnx;have VK:=hide hnx;have HTN:=hide (show tn=M.TS r (plain l) (k+1) by rw [azp.out,auY HLG.out,htn]);have hwz:=hHz.size
      have hr0:∀ W',(fun w':World=>∀ p q,p<wz.heap.size→p≠B5→w'.cell? ⟨p,q,none⟩=wz.cell? ⟨p,q,none⟩) W'→W'.rangeAt w.heap.size 0 ([.string r.game,.int .i64 r.target,.int .i64 r.aY]):=fun W' h j v hj=>by rw [h _ _ hIz.hr.lt (by omega)];exact hIz.hr.range j v hj
      have SC:∀ W',(fun w':World=>∀ p q,p<wz.heap.size→p≠B5→w'.cell? ⟨p,q,none⟩=wz.cell? ⟨p,q,none⟩) W'→W'.rangeAt b (o+k*7) (au e):=fun W' h j v hj=>by rw [h _ _ (by omega) (by omega)];exact (hHz.cell (p:=⟨b,o+k*7+j,none⟩) hbl).trans (aD3.out j v hj)
      clear hnx htn hpo hge;refine wp_region_held_drew (S:=(fun w':World=>∀ p q,p<wz.heap.size→p≠B5→w'.cell? ⟨p,q,none⟩=wz.cell? ⟨p,q,none⟩)) (by kernel_rfl) ?eP (fun hHeld=>?_)
      case eP=>exact fun p q _ _=>rfl
      refine Zf 0 hr0 Tryz.underlying25 ?_;refine tk 2 ?_;refine tk 3 ?_;refine tk 4 ?_;refine Zf 5 SC Tryz.underlying69 ?_;refine tr 1 fun K hK=>?_;refine apv (by kernel_rfl) ?_;refine sD (show Held wz.drew B5 (aW s As cs) 42 from hIz.hs) Tryz.underlying42 rfl Zc (.tmp 5) rfl rfl ?_;refine Zd hK (fun p q _ _=>rfl) fun hHeld=>?_;clear hK K;refine tr 6 fun K hK=>?_;go_simp
      (go_at_call 47;refine (VK.out _ (Below.refl _ _).drew).mono ?_;rintro e3 w3 ⟨A3,c3,rfl,hr3,hb3⟩;obtain ⟨hH3,hJ3⟩:=acg.set hIz.drew hb3 hr3 HTN.out)
      refine Zd hK (fun p q hp _=>hb3.cell (p:=⟨p,q,none⟩) hp) fun hHeld=>?_;clear hK K;refine tr 7 fun K hK=>?_;refine apv (by kernel_rfl) ?_;refine bF (cs:=aW s As cs) hH3 (aW tn A3 c3) rfl Zc (dL _ _ _) (.tmp 5) (.tmp 32) rfl rfl rfl ?_;refine Zd hK (fun p q hp hn=>(kN _ _ _ _ hn).trans (hHeld p q hp hn)) fun hHeld=>?_;clear hK K;refine wpAnyH_done (by kernel_rfl) ?_ _;exact HJ.out tn A3 c3 _ _ _ _ _ _ _ _ _ _ _ _ _ _ _ _ _ _ _ _ _ _ _ _ _ _ hJ3
    · have q1:(M.legal r s e.x == 0)=false:=by simpa using Vb
      have HLG:=hide Vb;clear Vb;refine wp_region_held_drew (S:=(fun w':World=>Below wr.heap.size wr w')) (by kernel_rfl) ?lJ (fun hHeld=>?_)
      case lJ=>exact (Below.refl _ _).drew
      refine Zf 0 hr0 Tryz.underlying25 ?_;refine Zf 1 hr1 Tryz.underlying42 ?_;refine tk 2 ?_;refine tk 3 ?_;refine tk 4 ?_;refine Zf 5 SC Tryz.underlying69 ?_;refine tr 6 fun K hK=>?_;go_simp
      (go_at_call 46;refine (QH.out _ hHeld).mono ?_;rintro e w2 ⟨rfl,hb2⟩)
      refine Zd hK (hHeld.trans (hb2.mono hHeld.size)) fun hHeld=>?_;clear hK K;refine tk 7 ?_;refine wpAnyH_done (by kernel_rfl) ?_ _;refine hKC _ _ ?_;refine wp_cond_false rfl ?_;refine ZA (p:=fun W=>Code.wp _ _ _ _ W) (fun wz hwz=>?_)
      have hHz:Below wr.heap.size wr wz:=by rw [hwz];exact hHeld
      clear hwz hHeld;have hIz:=hI.below hHz;clear hr0 hr1 SC hb2 QH;go_wp2;exact HJ.out s As cs _ _ _ _ _ _ _ _ _ _ _ _ _ _ _ _ _ _ _ _ _ _ _ _ _ _ ⟨hIz.lst,hIz.hr,hIz.hs,hIz.rs,hIz.row,hIz.lt,by rw [azp.out,av1 HLG.out],hIz.bw⟩
  · have hke:k=l.length:=by omega
    have i9:¬ ((k:Int)<(l.length:Int)):=by omega
    have hfin:StL r (plain l) l.length L∧RdT wr (fun b=>(S b∧b<w.heap.size)∨w.heap.size≤b) A c L:=by
     have h1:=hI.lst;have hl1:=h1.len;have hl5:=hI.lt;rw [hke] at h1;refine ⟨h1,hI.row.read (by omega) (fun b hb=> .inr (by omega)) (fun b hb=>?_)⟩
     rcases hb.1 with h | h
     · exact .inl h
     · exact .inr (by omega)
    have HF:=hide (And.intro hfin hI.bw);clear hke hfin hI hp;go_wp2;refine Q9.out _ _ ?_;go_wp2;go_ret;exact ⟨L,A,c,rfl,HF.out.1.1,HF.out.1.2,HF.out.2⟩
theorem aaj (S:Nat→Prop) (r:M.Rules) (l:List Sh) (A0:Option Addr) (c0:Nat) (w:World) (hp:wG w S A0 c0 l) (hr:M.aH r=0) (hl:M.je (plain l)=0):
 Calls Tryz.prog 67 #[jM r,.slice A0 l.length c0] w fun e w'=>∃ L A' c',e= .returned (.slice A' L.length c')∧StL r (plain l) l.length L∧RdT w' (fun b=>(S b∧b<w.heap.size)∨w.heap.size≤b) A' c' L∧Below w.heap.size w w':=by
 have HP:=hide (hp.more (S':=fun b=>S b∧b<w.heap.size) (fun b hb h=>⟨h,hb⟩));have ajC:=hide (aC2 S r l A0 c0 w HP (hide ⟨hr,hl⟩));obtain ⟨s0,hs0⟩:∃ q,M.start r=q:=⟨_,rfl⟩;have hst:=fun W=>akz r W;rw [hs0] at hst;have HST:=hide hst;have wZ:=hide (And.intro hr hl);have HS0:=hide hs0;clear hst hr hl hs0
 go_enter Tryz.func67,Tryz.ntmps67
 apply wp_seq_k;intro K hK;have HK:=hide hK;clear hK;have hB0:=(bU.nil w).new (by simp) ([.string r.game,.int .i64 r.target,.int .i64 r.aY]) 25;go_wp2;refine HK.out _ _ ?_;refine ZA (p:=fun W=>Code.wp _ _ _ _ W) (fun w0 hw0=>?_)
 have hB:bU w w0 [([.string r.game,.int .i64 r.target,.int .i64 r.aY],25)]:=by rw [hw0];exact hB0
 clear hw0 hB0;apply wp_seq_k;intro K hK;have HK:=hide hK;clear hK
 go_wp2_with (first | (refine aN 25 (.tmp 2) rfl ?_;refine aG (hB.bf rfl) Tryz.underlying25 rfl Zw rfl (.tmp 2) rfl rfl ?_) | (go_at_call 38;refine (HST.out _).mono ?_;rintro e w1 ⟨A1,c1,rfl,hr1,hb1⟩;have hB1:=hB.call (by simp) hb1;have hN1:=Held.new w1 aj 42) | (refine aO 42 (.tmp 5) (.tmp 9) rfl ?_;refine aF hN1 (aW s0 A1 c1) rfl aaL (dL _ _ _) rfl (.tmp 5) (.tmp 9) rfl rfl rfl ?_))
 refine HK.out _ _ ?_;refine ZA (p:=fun W=>Code.wp _ _ _ _ W) (fun w2 hw2=>?_)
 have hS2:Held w2 w1.heap.size (aW s0 A1 c1) 42:=by rw [hw2];exact hN1.whole (aW s0 A1 c1) rfl
 have hR2:Held w2 w.heap.size ([.string r.game,.int .i64 r.target,.int .i64 r.aY]) 25:=by rw [hw2];exact (Held.others (by have:=hB.bw.size;have:=hb1.size;have:=(hB.bf rfl).lt;omega) _ _ _ ((hB1.bf rfl).alloc _))
 have hb2:Below w1.heap.size w1 w2:=by rw [hw2];exact below_setCells _ (Nat.le_refl _) _ _ _ _ ((Below.refl _ _).alloc (Nat.le_refl _) _)
 have hq2:w2.heap.size=w1.heap.size+1:=by rw [hw2,setCells_size];simp
 have hlt1:w.heap.size<w1.heap.size:=(hB1.bf rfl).lt;have hbw2:Below w.heap.size w w2:=hB1.bw.trans (hb2.mono (by omega));have hr2:bD w2 (fun b=>((S b∧b<w.heap.size)∨w.heap.size+1≤b)∧b≠w1.heap.size) A1 c1 s0.ay:=(bD.more hr1 (fun b hl h=>⟨.inr (by have h:w0.heap.size≤b:=h;have:=(hB.bf rfl).lt;omega),by omega⟩)).below hb2;obtain ⟨B5,NM⟩:∃ q,w1.heap.size=q:=⟨_,rfl⟩;rw [NM] at hS2 hq2 hlt1 hr2;rw [NM];clear hw2 hb2 hB1 hN1 hr1 hb1 hB NM;have hlit:=ZF.lit (e:=42) (D:=B5+1) (Z:=(fun b=>((S b∧b<w.heap.size)∨w.heap.size+1≤b)∧b≠B5)) w2 ⟨s0,A1,c1⟩ (by omega) hr2;have hba:=(Below.refl w2.heap.size w2).alloc (Nat.le_refl _) (.cells (stC ⟨s0,A1,c1⟩).toArray 42)
 have hI0:acg S r (plain l) w B5 0 0 [⟨s0,A1,c1⟩] (some ⟨B5+1,0,none⟩) 1 s0 A1 c1 (w2.alloc (.cells (stC ⟨s0,A1,c1⟩).toArray 42)):=by
  rw [← hq2]
  exact ⟨⟨rfl,fun k hk=>by have hk0:k=0:=(by simp at hk;omega)
                           subst hk0;exact HS0.out.symm⟩,hR2.below hba,hS2.below hba,bD.more ((bD.more hr2 (S':=fun b=>(fun b=>((S b∧b<w.heap.size)∨w.heap.size+1≤b)∧b≠B5) b∧b<w2.heap.size) (fun b hb h=>⟨h,hb⟩)).below hba) (fun b _ h=>⟨h.1,fun e=>by cases e;exact Nat.lt_irrefl _ h.2⟩),hlit,hlt1,HS0.out.symm,VY hbw2 hba⟩
 have aAc:Held w2 B5 [.int .i64 s0.turn,.bool s0.brk,.bool s0.hand,.bool s0.push,.bool s0.pushed,.int .i64 s0.group,.slice A1 s0.ay.length c1,.int .i64 s0.s0,.int .i64 s0.s1,.int .i64 s0.f0,.int .i64 s0.f1,.int .i64 s0.run,.int .i64 s0.aZ,.bool s0.over,.int .i64 s0.bC] 42:=hS2;apply wp_seq_k;intro K hK;have HK:=hide hK;clear hK
 go_wp2_with (first | (refine aN 42 (.tmp 5) rfl ?_;refine aG (aAc) Tryz.underlying42 rfl Zc rfl (.tmp 5) rfl rfl ?_))
 refine HK.out _ _ ?_;refine ZA (p:=fun W=>Code.wp _ _ _ _ W) (fun W0 hW0=>?_)
 have hI:acg S r (plain l) w B5 0 0 [⟨s0,A1,c1⟩] (some ⟨B5+1,0,none⟩) 1 s0 A1 c1 W0:=by rw [hW0];exact hI0
 clear hW0 hI0 hlit hba hR2 hS2 aAc hr2 hbw2 hq2;have HA:=ajC.out;apply HA;exact ⟨rfl,rfl,_,_,_,_,_,_,_,rfl,rfl,hI⟩
theorem afK (r:M.Rules) (l:List Sh) (k:Nat):M.TS r (plain l) k=lQ r l k:=by
 unfold M.TS lQ plain
 rw [List.map_take]
structure apQ (S:Nat→Prop) (r:M.Rules) (l:List Sh) (w:World) (nb:Nat) (L:List StE) (A:Option Addr) (c:Nat) (W:World):Prop where
 lst:StL r (plain l) l.length L
 hr:Held W w.heap.size ([.string r.game,.int .i64 r.target,.int .i64 r.aY]) 25
 rt:RdT W (fun b=>(S b∧b<w.heap.size)∨w.heap.size+nb≤b) A c L
 bw:Below w.heap.size w W
theorem apQ.below {S:Nat→Prop} {r:M.Rules} {l:List Sh} {w:World} {nb:Nat} {L:List StE} {A:Option Addr} {c:Nat} {W W':World} (h:apQ S r l w nb L A c W) (hb:Below W.heap.size W W'):apQ S r l w nb L A c W':=
 ⟨h.lst,h.hr.below hb,h.rt.below hb,VY h.bw hb⟩
theorem apQ.at_ {S:Nat→Prop} {r:M.Rules} {l:List Sh} {w:World} {nb:Nat} {L:List StE} {A:Option Addr} {c:Nat} {W:World} (h:apQ S r l w nb L A c W):∃ b o,A=some ⟨b,o,none⟩∧b<W.heap.size∧∀ k,k≤l.length→∃ As cs,W.rangeAt b (o+k*15) (aW (lQ r l k) As cs)∧bD W (fun b=>(S b∧b<w.heap.size)∨w.heap.size+nb≤b) As cs (lQ r l k).ay:=by
 have hl:=h.lst.len;obtain ⟨b,o,e,_,hb,hc⟩:=Reads.at_ h.rt.1 (by omega);refine ⟨b,o,e,hb,fun k hk=>?_⟩
 have hkL:k<L.length:=by omega
 have hg:=(h.lst.get k hkL).trans (afK r l k);have hr:=aax agQ hc k hkL;have hb2:=h.rt.2 _ (List.getElem_mem hkL);rw [hg] at hb2
 have he:stC L[k]=aW (lQ r l k) L[k].a L[k].c:=by unfold stC;rw [hg]
 rw [he] at hr;exact ⟨_,_,hr,hb2⟩
noncomputable def apf (n:Nat):Code:=dQ n ((Tryz.f59).body.getD .skip)
@[reducible] def azD (r:M.Rules) (a b:List Sh) (w:World) (F:Value→Value→World→Prop) (n:Nat):Prop:=∀ (z0 z1 z2 z3 z4 z5 z6 z7 z8 z9 z10 z11 z12 z13 kD kK kF z17 kL jQ z20 z21 z22 z23 z24 z25 z26 z27 z28 z29 z30 z31 z32 z33 z34 z35 z36 z37 z38 z39 z40 z41 z42 z43 z44 z45 z46:Value) (W:World),F z7 z8 W→(apf n).wp Tryz.prog (bodyPost Tryz.prog Tryz.f59 (fun e w'=>e= .returned (.int .i64 (M.changed r (plain a) (plain b)))∧Below w.heap.size w w')) {tmps:= #[z0,z1,z2,z3,z4,z5,z6,z7,z8,z9,z10,z11,z12,z13,kD,kK,kF,z17,kL,jQ,z20,z21,z22,z23,z24,z25,z26,z27,z28,z29,z30,z31,z32,z33,z34,z35,z36,z37,z38,z39,z40,z41,z42,z43,z44,z45,z46],defers:=[] } W
@[reducible] def awh (r:M.Rules) (a b:List Sh) (w:World):Prop:=azD r a b w (fun z7 z8 W=>(∃ L A c,z7= .slice A (L:List StE).length c∧StL r (plain a) a.length L∧RdT W (fun _=>True) A c L)∧(∃ L A c,z8= .slice A (L:List StE).length c∧StL r (plain b) b.length L∧RdT W (fun _=>True) A c L)∧Below w.heap.size w W) 2
def chF (r:M.Rules) (a b:List Sh) (n:Nat):Bool:=(M.TS r (plain a) n).eq (M.TS r (plain b) n)
theorem ai3 (r:M.Rules) (a b:List Sh):M.changed r (plain a) (plain b)=M.DT (chF r a b) 1 (max a.length b.length):=by unfold M.changed;rw [eF,eF];rfl
theorem au5 {r:M.Rules} {l:List Sh} {L:List StE} {A:Option Addr} {c:Nat} {W:World} (hl:StL r (plain l) l.length L) (hr:RdT W (fun _=>True) A c L) (k j:Nat) (hj:j=min k l.length):
 ∃ b o As cs,A=some ⟨b,o,none⟩∧b<W.heap.size∧(∀ W',Below W.heap.size W W'→W'.rangeAt b (o+j*15) (aW (M.TS r (plain l) k) As cs))∧bD W (fun _=>True) As cs (M.TS r (plain l) k).ay:=by
 have hL:=hl.len;obtain ⟨b,o,e,_,hb,hc⟩:=Reads.at_ hr.1 (by omega)
 have hjL:j<L.length:=by omega
 have hg:=hl.get j hjL
 have hs:M.TS r (plain l) j=M.TS r (plain l) k:=by
  unfold M.TS
  rcases Nat.le_total k l.length with h | h
  · rw [hj,Nat.min_eq_left h]
  · rw [hj,Nat.min_eq_right h,List.take_of_length_le (by rw [eF];exact Nat.le_refl _),List.take_of_length_le (by rw [eF];exact h)]
 rw [hs] at hg;have hrg:=aax agQ hc j hjL;have hb2:=hr.2 _ (List.getElem_mem hjL);rw [hg] at hb2
 have he:stC L[j]=aW (M.TS r (plain l) k) L[j].a L[j].c:=by unfold stC;rw [hg]
 rw [he] at hrg;exact ⟨b,o,_,_,e,hb,fun W' h i v hi=>(h.cell (p:=⟨b,o+j*15+i,none⟩) hb).trans (hrg i v hi),hb2⟩
theorem aCV (r:M.Rules) (a b:List Sh) (w:World) (HN:Hid (a.length≤1000∧b.length≤1000)):awh r a b w:=by
 dsimp only [awh,azD]
 intros
 rename_i W hf
 dsimp only [apf,dQ,Tryz.f59,Option.getD]
 obtain ⟨⟨La,A1,c1,rfl,hla,atx⟩,⟨Lb,B1,d1,rfl,hlb,atE⟩,hbw⟩:=hf;have hLa:=hla.len;have hLb:=hlb.len;rw [hLa,hLb];have hnn:=HN.out;go_wp2
 go_loopw [9] (fun i wr=>∃ k:Nat,k≤max a.length b.length∧i= .int .i64 ((k:Int)+1)∧M.changed r (plain a) (plain b)=M.DT (chF r a b) (k+1) (max a.length b.length - k)∧Below W.heap.size W wr) (fun i _=>max a.length b.length+1 - (intOf i).toNat)
 case atStart=>exact ⟨0,Nat.zero_le _,rfl,ai3 r a b,Below.refl _ _⟩
 case round=>
  obtain ⟨k,hk,rfl,hf,hbr⟩:=hrel;have HF:=hide hf;clear hf
  by_cases hlt:k<max a.length b.length
  · have hst:=M.ZP (chF r a b) hlt
    obtain ⟨v,hv⟩:∃ v,chF r a b (k+1)=v:=⟨_,rfl⟩
    have hf2:M.changed r (plain a) (plain b)=if v then M.DT (chF r a b) (k+1+1) (max a.length b.length - (k+1)) else ((k+1:Nat):Int):=by rw [← hv];exact HF.out.trans hst
    have HF2:=hide hf2;clear hst hf2 HF;obtain ⟨ja,hja⟩:∃ j,min (k+1) a.length=j:=⟨_,rfl⟩;obtain ⟨jb,hjb⟩:∃ j,min (k+1) b.length=j:=⟨_,rfl⟩
    go_upto_region 3 with (fail)
    go_cut [25] from 16 to 25 (fun v wx=>v= .bool true∧wx=wr)
    case first=>
     by_cases pa:k<a.length
     · have t1:decide (k<a.length)=true:=by simp;omega
       go_wp2;go_meet;exact ⟨rfl,rfl⟩
     · have t1:decide (k<a.length)=false:=by simp;omega
       have t2:decide (k<b.length)=true:=by simp;omega
       go_wp2;go_meet;exact ⟨rfl,rfl⟩
    case rest=>
     obtain ⟨rfl,rfl⟩:=hcut;obtain ⟨ba,oa,Aa,ca,rfl,aAj,aAS,hba⟩:=au5 hla atx (k+1) ja (by omega);obtain ⟨bb,ob,Ab,cb,rfl,aAq,aAZ,hbb⟩:=au5 hlb atE (k+1) jb (by omega);obtain ⟨wr,rfl⟩:∃ q,q=wc:=⟨_,rfl⟩;have hra:=fun W' (h:(fun w':World=>Below wr.heap.size wr w') W')=>aAS W' (hbr.trans (h.mono hbr.size));have hrb:=fun W' (h:(fun w':World=>Below wr.heap.size wr w') W')=>aAZ W' (hbr.trans (h.mono hbr.size))
     have m1:min ((k:Int)+1) (a.length:Int)=(ja:Int):=by omega
     have m2:min ((k:Int)+1) (b.length:Int)=(jb:Int):=by omega
     have w1:IntKind.i64.wrap (a.length:Int)=(a.length:Int):=IntWalk.i64_in _ (by omega);have w2:IntKind.i64.wrap (b.length:Int)=(b.length:Int):=IntWalk.i64_in _ (by omega)
     have i0:(0:Int)≤(ja:Int):=by omega
     have i1:(0:Int)≤(jb:Int):=by omega
     have i2:(ja:Int)<(a.length:Int)+1:=by omega
     have i3:(jb:Int)<(b.length:Int)+1:=by omega
     clear aAS aAZ hla hlb atx atE hja hjb;obtain ⟨sa,hsa⟩:∃ q,M.TS r (plain a) (k+1)=q:=⟨_,rfl⟩;obtain ⟨sb,hsb⟩:∃ q,M.TS r (plain b) (k+1)=q:=⟨_,rfl⟩
     have hv2:sa.eq sb=v:=by rw [← hsa, ← hsb];exact hv
     rw [hsa] at hra hba;rw [hsb] at hrb hbb;have hsm:=fun W' (h:(fun w':World=>Below wr.heap.size wr w') W')=>auJ (fun _=>True) (fun _=>True) sa sb Aa Ab ca cb W' ((hba.below hbr).below h) ((hbb.below hbr).below h);rw [hv2] at hsm;have HSM:=hide hsm;clear hsm hv hv2 hba hbb hsa hsb;go_wp2;refine wp_region_held_drew (S:=(fun w':World=>Below wr.heap.size wr w')) (by kernel_rfl) ?eP (fun hHeld=>?_)
     case eP=>exact (Below.refl _ _).drew
     refine tk 0 ?_;refine tk 1 ?_;refine tk 2 ?_;refine tk 3 ?_;refine tk 4 ?_;refine tk 5 ?_;refine tk 6 ?_;refine Zf 7 hra Tryz.underlying42 ?_;refine tk 8 ?_;refine tk 9 ?_;refine tk 10 ?_;refine tk 11 ?_;refine tk 12 ?_;refine tk 13 ?_;refine tk 14 ?_;refine Zf 15 hrb Tryz.underlying42 ?_;refine tr 16 fun K hK=>?_;go_simp
     (go_at_call 68;refine (HSM.out _ hHeld).mono ?_;rintro e w2 ⟨rfl,hb2⟩)
     refine Zd hK (hHeld.trans (hb2.mono hHeld.size)) fun hHeld=>?_;clear hK K;refine tk 17 ?_;refine wpAnyH_done (by kernel_rfl) ?_ _
     cases v with
     | true=>
       go_wp2
       go_roundw
       case rel=>exact ⟨k+1,by omega,by go_num,HF2.out,hbr.trans (hHeld.mono hbr.size)⟩
       case measure=>simp [intOf];omega
     | false=>
       go_wp2;go_ret;exact ⟨by rw [HF2.out];first | rfl | (push_cast;rfl),hbw.trans ((hbr.trans (hHeld.mono hbr.size)).mono hbw.size)⟩
  · have t1:decide (k<a.length)=false:=by simp;omega
    have t2:decide (k<b.length)=false:=by simp;omega
    have hke:k=max a.length b.length:=by omega
    have hf2:M.changed r (plain a) (plain b)=0:=HF.out.trans (by rw [hke,Nat.sub_self];rfl);have HF2:=hide hf2;clear hf2 hke hlt;go_wp2;go_ret;exact ⟨by rw [HF2.out] <;> rfl,hbw.trans (hbr.mono hbw.size)⟩
noncomputable def agJ (n:Nat):Code:=dQ n ((Tryz.f58).body.getD .skip)
@[reducible] def apJ (r:M.Rules) (a b:List Sh) (A B:Option Addr) (c d:Nat) (w:World) (F:Value→Value→Value→Value→Value→Value→Value→World→Prop) (n:Nat):Prop:=∀ (z0 z1 z2 z3 z4 z5 z6 z7 z8 z9 z10 z11 z12 z13 kD kK kF z17 kL jQ z20 z21 z22 z23 z24 z25 z26 z27 z28 z29 z30 z31 z32 z33 z34 z35 z36 z37 z38 z39 z40 z41 z42 z43 z44 z45 z46 z47 z48 z49 z50 z51 z52 z53 z54 z55 z56 z57 z58 z59 z60 z61 z62 z63 z64 z65 z66:Value) (W:World),F z1 z2 z3 z9 z10 z11 z12 W→(agJ n).wp Tryz.prog (bodyPost Tryz.prog Tryz.f58 (fun e w'=>e= .returned (.tuple #[.int .i64 (M.changed r (plain a) (plain b)),.int .i64 0])∧Below w.heap.size w w')) {tmps:= #[z0,z1,z2,z3,z4,z5,z6,z7,z8,z9,z10,z11,z12,z13,kD,kK,kF,z17,kL,jQ,z20,z21,z22,z23,z24,z25,z26,z27,z28,z29,z30,z31,z32,z33,z34,z35,z36,z37,z38,z39,z40,z41,z42,z43,z44,z45,z46,z47,z48,z49,z50,z51,z52,z53,z54,z55,z56,z57,z58,z59,z60,z61,z62,z63,z64,z65,z66],defers:=[] } W
@[reducible] def av8 (r:M.Rules) (a b:List Sh) (A B:Option Addr) (c d:Nat) (w:World):Prop:=apJ r a b A B c d w (fun z1 z2 z3 _ _ _ _ W=>z1= .slice A a.length c∧z2= .slice B b.length d∧z3=ptr w.heap.size∧Held W w.heap.size ([.string r.game,.int .i64 r.target,.int .i64 r.aY]) 23∧Below w.heap.size w W) 2
@[reducible] def asV (r:M.Rules) (a b:List Sh) (A B:Option Addr) (c d:Nat) (w:World):Prop:=apJ r a b A B c d w (fun _ _ z3 z9 z10 _ _ W=>(∃ L A c,z9= .slice A (L:List StE).length c∧L.length=a.length∧RTL r a L∧RdT W (fun b=>True) A c L)∧(∃ L A c,z10= .slice A (L:List StE).length c∧L.length=b.length∧RTL r b L∧RdT W (fun b=>True) A c L)∧z3=ptr w.heap.size∧Held W w.heap.size ([.string r.game,.int .i64 r.target,.int .i64 r.aY]) 23∧Below w.heap.size w W) 3
@[reducible] def as3 (r:M.Rules) (a b:List Sh) (A B:Option Addr) (c d:Nat) (w:World):Prop:=apJ r a b A B c d w (fun _ _ _ z9 z10 z11 z12 W=>∃ p q,(∃ L A c,z9= .slice A (L:List StE).length c∧L.length=a.length∧RTL r a L∧RdT W (fun b=>b≠p∧b≠q) A c L)∧(∃ L A c,z10= .slice A (L:List StE).length c∧L.length=b.length∧RTL r b L∧RdT W (fun b=>b≠p∧b≠q) A c L)∧z11=ptr p∧z12=ptr q∧p≠q∧w.heap.size≤p∧w.heap.size≤q∧(∃ As cs,Held W p (aW (M.start r) As cs) 33∧bD W (fun b=>b≠p∧b≠q) As cs (M.start r).ay)∧(∃ As cs,Held W q (aW (M.start r) As cs) 33∧bD W (fun b=>b≠p∧b≠q) As cs (M.start r).ay)∧Below w.heap.size w W) 4
theorem akN {r:M.Rules} {l:List Sh} {L:List StE} {S:Nat→Prop} {A:Option Addr} {c:Nat} {W:World} (hl:L.length=l.length) (hg:RTL r l L) (hr:RdT W S A c L) {k:Nat} (hk:k<l.length):
 ∃ b o As cs,A=some ⟨b,o,none⟩∧S b∧b<W.heap.size∧W.rangeAt b (o+k*15) (aW (M.TS r (plain l) (k+1)) As cs)∧bD W S As cs (M.TS r (plain l) (k+1)).ay:=by
 obtain ⟨b,o,e,hS,hb,hc⟩:=Reads.at_ hr.1 (by omega)
 have hkL:k<L.length:=by omega
 have hs:=(hg k hkL).trans (afK r l (k+1)).symm;have hrg:=aax agQ hc k hkL;have hb2:=hr.2 _ (List.getElem_mem hkL);rw [hs] at hb2
 have he:stC L[k]=aW (M.TS r (plain l) (k+1)) L[k].a L[k].c:=by unfold stC;rw [hs]
 rw [he] at hrg;exact ⟨b,o,_,_,e,hS,hb,hrg,hb2⟩
theorem ajv {r:M.Rules} {l:List Sh} {k:Nat} (hk:¬ k<l.length):M.TS r (plain l) (k+1)=M.TS r (plain l) k:=by
 unfold M.TS
 rw [List.take_of_length_le (by rw [eF];omega),List.take_of_length_le (by rw [eF];omega)]
theorem RdT.turn {X:Nat→Prop} {W W':World} {S:Nat→Prop} {A:Option Addr} {c:Nat} {L:List StE} (h:RdT W S A c L) (ht:Turn X W W') (hX:∀ b,S b→¬ X b):RdT W' S A c L:=
 ⟨Reads.turn h.1 ht hX,fun e he=>Reads.turn (h.2 e he) ht hX⟩
structure ChI (r:M.Rules) (a b:List Sh) (p q k:Nat) (W wr:World):Prop where
 t:Turn (fun b=>b=p∨b=q) W wr
 x:∃ As cs,Held wr p (aW (M.TS r (plain a) k) As cs) 33∧bD wr (fun b=>b≠p∧b≠q) As cs (M.TS r (plain a) k).ay
 y:∃ As cs,Held wr q (aW (M.TS r (plain b) k) As cs) 33∧bD wr (fun b=>b≠p∧b≠q) As cs (M.TS r (plain b) k).ay
theorem aCA (r:M.Rules) (a b:List Sh) (A B:Option Addr) (c d:Nat) (w:World) (HR:Hid (M.aH r=0∧M.je (plain a)=0∧M.je (plain b)=0)) (HP:Hid (wG w (fun b=>b<w.heap.size) A c a∧wG w (fun b=>b<w.heap.size) B d b)) (HN:Hid (asV r a b A B c d w)):av8 r a b A B c d w:=by
 dsimp only [av8,apJ]
 intros
 rename_i W hf
 dsimp only [agJ,dQ,Tryz.f58,Option.getD]
 obtain ⟨rfl,rfl,rfl,h3,hbw⟩:=hf;have hsa:=fun W' (h:Below w.heap.size w W')=>af7 _ r a A c W' (HP.out.1.below h) HR.out.1 HR.out.2.1;have hsb:=fun W' (h:Below w.heap.size w W')=>af7 _ r b B d W' (HP.out.2.below h) HR.out.1 HR.out.2.2;have HSA:=hide hsa;have HSB:=hide hsb;have Vh:∀ W',(fun w':World=>Below W.heap.size W w') W'→W'.rangeAt w.heap.size 0 ([.string r.game,.int .i64 r.target,.int .i64 r.aY]):=fun W' h=>(h3.below h).range;clear hsa hsb;apply wp_seq_k;intro K hK;have HK:=hide hK;clear hK;refine wp_region_held_drew (S:=(fun w':World=>Below W.heap.size W w')) (by kernel_rfl) ?eP (fun hHeld=>?_)
 case eP=>exact (Below.refl _ _).drew
 refine Zf 0 Vh Tryz.underlying23 ?_;refine tk 1 ?_;refine Zf 3 Vh Tryz.underlying23 ?_;refine tk 4 ?_;refine tr 2 fun K hK=>?_;go_simp
 (go_at_call 107;refine (HSA.out _ (hbw.trans (hHeld.mono hbw.size))).mono ?_;rintro e wa ⟨La,A1,c1,rfl,aAE,hga,hra,hba⟩;have hla:=hide aAE;clear aAE)
 refine Zd hK (hHeld.trans (hba.mono hHeld.size)) fun hHeld=>?_;clear hK K;refine tr 5 fun K hK=>?_;go_simp
 (go_at_call 107;refine (HSB.out _ (hbw.trans (hHeld.mono hbw.size))).mono ?_;rintro e wb ⟨Lb,A2,c2,rfl,aAL,hgb,hrb,hbb⟩;have hlb:=hide aAL;clear aAL)
 refine Zd hK (hHeld.trans (hbb.mono hHeld.size)) fun hHeld=>?_;clear hK K;refine tk 6 ?_;refine tk 7 ?_;refine wpAnyH_done (by kernel_rfl) ?_ _;refine HK.out _ _ ?_;apply HN.out;exact ⟨⟨La,A1,c1,rfl,hla.out,hga,(hra.below hbb).more (fun _ _ _=>trivial)⟩,⟨Lb,A2,c2,rfl,hlb.out,hgb,hrb.more (fun _ _ _=>trivial)⟩,rfl,h3.below hHeld,hbw.trans (hHeld.mono hbw.size)⟩
theorem aCH (r:M.Rules) (a b:List Sh) (A B:Option Addr) (c d:Nat) (w:World) (HR:Hid (M.aH r=0∧M.je (plain a)=0∧M.je (plain b)=0)) (HP:Hid (wG w (fun b=>b<w.heap.size) A c a∧wG w (fun b=>b<w.heap.size) B d b)) (HN:Hid (as3 r a b A B c d w)):asV r a b A B c d w:=by
 dsimp only [asV,apJ]
 intro z0 z1 z2 _ z4 z5 z6 z7 z8 z9 z10 _ _ z13 kD kK kF z17 kL jQ z20 z21 z22 z23 z24 z25 z26 z27 z28 z29 _ _ _ _ _ _ z36 z37 z38 z39 z40 z41 z42 z43 z44 z45 z46 z47 z48 z49 z50 z51 z52 z53 z54 z55 z56 z57 z58 z59 z60 z61 z62 z63 z64 z65 z66 W hf
 dsimp only [agJ,dQ,Tryz.f58,Option.getD]
 obtain ⟨h9,h10,rfl,h3,hbw⟩:=hf;have Vh:∀ W',(fun w':World=>Below W.heap.size W w') W'→W'.rangeAt w.heap.size 0 ([.string r.game,.int .i64 r.target,.int .i64 r.aY]):=fun W' h=>(h3.below h).range;have hfs:=ak8;apply wp_seq_k;intro K hK;have HK:=hide hK;clear hK;refine wp_region_held_drew (S:=(fun w':World=>Below W.heap.size W w')) (by kernel_rfl) ?jw (fun hHeld=>?_)
 case jw=>exact (Below.refl _ _).drew
 refine ajh (fun f hf=>?_)
 have J:∀ (p q:Nat) (A1 A2:Option Addr) (c1 c2:Nat) (wx:World),Held wx p aj 33→Held wx q aj 33→p≠q→W.heap.size≤p→W.heap.size≤q→(fun w':World=>Below W.heap.size W w') wx→
  bD wx (fun b=>b≠p∧b≠q) A1 c1 (M.start r).ay→bD wx (fun b=>b≠p∧b≠q) A2 c2 (M.start r).ay→f 2 #[true,true,true,true,true,true,true,true,false,false] {tmps:= #[z0,z1,z2,ptr w.heap.size,z4,z5,z6,z7,z8,z9,z10,ptr p,ptr q,z13,kD,kK,kF,z17,kL,jQ,z20,z21,z22,z23,z24,z25,z26,z27,z28,z29,.agg ([.string r.game,.int .i64 r.target,.int .i64 r.aY]:List Value).toArray,dH r (M.start r) A1 c1,.agg (aW (M.start r) A1 c1).toArray,.agg ([.string r.game,.int .i64 r.target,.int .i64 r.aY]:List Value).toArray,dH r (M.start r) A2 c2,.agg (aW (M.start r) A2 c2).toArray,z36,z37,z38,z39,z40,z41,z42,z43,z44,z45,z46,z47,z48,z49,z50,z51,z52,z53,z54,z55,z56,z57,z58,z59,z60,z61,z62,z63,z64,z65,z66],defers:=[] } wx:=by
  intro p q A1 A2 c1 c2 wx gp gq npq lp lq hHeld hra hrb;subst hf;have hHeld:(fun w':World=>Below W.heap.size W w') (wx.setCells p 0 (aW (M.start r) A1 c1)):=below_setCells _ lp _ _ _ _ hHeld;refine wpAnyH_ready (rs:=[8]) (by kernel_rfl) (by simp) ?_;refine aaE (o:=_) (ga rfl) (by kernel_rfl) gp (aW (M.start r) A1 c1) rfl bW (dL _ _ _) (.tmp 11) (.tmp 32) rfl rfl rfl hHeld ?_
  try simp only [Act.put,la,lz,ls]
  have hHeld:(fun w':World=>Below W.heap.size W w') ((wx.setCells p 0 (aW (M.start r) A1 c1)).setCells q 0 (aW (M.start r) A2 c2)):=below_setCells _ lq _ _ _ _ hHeld;refine wpAnyH_ready (rs:=[9]) (by kernel_rfl) (by simp) ?_;refine aaE (o:=_) (ga rfl) (by kernel_rfl) (Held.others npq.symm _ _ _ gq) (aW (M.start r) A2 c2) rfl bW (dL _ _ _) (.tmp 12) (.tmp 35) rfl rfl rfl hHeld ?_
  try simp only [Act.put,la,lz,ls]
  refine wpAnyH_done (by kernel_rfl) ?_ _;refine HK.out _ _ ?_;apply HN.out;have hb0:Below W.heap.size W ((wx.setCells p 0 (aW (M.start r) A1 c1)).setCells q 0 (aW (M.start r) A2 c2)):=hHeld;refine ⟨p,q,?_,?_,rfl,rfl,npq,by have:=hbw.size;omega,by have:=hbw.size;omega,⟨A1,c1,Held.others npq _ _ _ (gp.whole _ rfl),bD.sets (fun h=>h.2 rfl) _ _ _ (bD.sets (fun h=>h.1 rfl) _ _ _ hra)⟩,⟨A2,c2,(Held.others npq.symm _ _ _ gq).whole _ rfl,bD.sets (fun h=>h.2 rfl) _ _ _ (bD.sets (fun h=>h.1 rfl) _ _ _ hrb)⟩,VY hbw hb0⟩
  · obtain ⟨L,A0,c0,e,hl,hg,hr⟩:=h9
    exact ⟨L,A0,c0,e,hl,hg,(hr.more (S':=fun b=>b<W.heap.size) (fun b hb _=>hb)).below hb0 |>.more (fun b _ h=>by constructor <;> omega)⟩
  · obtain ⟨L,A0,c0,e,hl,hg,hr⟩:=h10
    exact ⟨L,A0,c0,e,hl,hg,(hr.more (S':=fun b=>b<W.heap.size) (fun b hb _=>hb)).below hb0 |>.more (fun b _ h=>by constructor <;> omega)⟩
 rw [hf] at J;subst hf;refine Zf 0 Vh Tryz.underlying23 ?_;refine Zf 3 Vh Tryz.underlying23 ?_;refine apC 1 6 7 (fun K hK=>?_) (fun K hK=>?_) fun K hK=>?_
 · go_simp
   (go_at_call 64;refine (BJ r _).mono ?_;rintro e wa ⟨A1,c1,rfl,hra,hba⟩)
   refine Zd hK (hHeld.trans (hba.mono hHeld.size)) fun hHeld=>?_;clear hK K;refine tk 2 ?_;refine apC 4 6 7 (fun K hK=>?_) (fun K hK=>?_) fun K hK=>?_
   · go_simp
     (go_at_call 64;refine (BJ r _).mono ?_;rintro e wb ⟨A2,c2,rfl,hrb,hbb⟩)
     refine Zd hK (hHeld.trans (hbb.mono hHeld.size)) fun hHeld=>?_;clear hK K;refine tk 5 ?_;refine ZX 6 7 (fun K hK=>?_) fun K hK=>?_
     · go_simp
       refine Zd hK (Below.alloc hHeld hHeld.size _) fun hHeld=>?_;clear hK K;refine tr 7 fun K hK=>?_;go_simp;refine Zd hK (Below.alloc hHeld hHeld.size _) fun hHeld=>?_;clear hK K;have hqa:=hba.size;have hqb:=hbb.size
       (try simp at hqa hqb)
       exact J _ _ A1 A2 c1 c2 _ ((Held.newAt _ aj 33 (by first | rfl | simp)).alloc _) (Held.newAt _ aj 33 (by first | rfl | simp)) (by (try simp);(try omega)) (by (try simp);(try omega)) (by (try simp);(try omega)) hHeld ((((Reads.more hra (fun b hl h=>by (try simp at h hl ⊢) <;> omega)).below hbb).alloc _).alloc _) (((Reads.more hrb (fun b hl h=>by (try simp at h hl ⊢) <;> omega)).alloc _).alloc _)
     · go_simp
       refine Zd hK (Below.alloc hHeld hHeld.size _) fun hHeld=>?_;clear hK K;refine tr 6 fun K hK=>?_;go_simp;refine Zd hK (Below.alloc hHeld hHeld.size _) fun hHeld=>?_;clear hK K;have hqa:=hba.size;have hqb:=hbb.size
       (try simp at hqa hqb)
       exact J _ _ A1 A2 c1 c2 _ (Held.newAt _ aj 33 (by first | rfl | simp)) ((Held.newAt _ aj 33 (by first | rfl | simp)).alloc _) (by (try simp);(try omega)) (by (try simp);(try omega)) (by (try simp);(try omega)) hHeld ((((Reads.more hra (fun b hl h=>by (try simp at h hl ⊢) <;> omega)).below hbb).alloc _).alloc _) (((Reads.more hrb (fun b hl h=>by (try simp at h hl ⊢) <;> omega)).alloc _).alloc _)
   · go_simp
     refine Zd hK (Below.alloc hHeld hHeld.size _) fun hHeld=>?_;clear hK K;refine ZX 4 7 (fun K hK=>?_) fun K hK=>?_
     · go_simp
       (go_at_call 64;refine (BJ r _).mono ?_;rintro e wb ⟨A2,c2,rfl,hrb,hbb⟩)
       refine Zd hK (hHeld.trans (hbb.mono hHeld.size)) fun hHeld=>?_;clear hK K;refine tk 5 ?_;refine tr 7 fun K hK=>?_;go_simp;refine Zd hK (Below.alloc hHeld hHeld.size _) fun hHeld=>?_;clear hK K;have hqa:=hba.size;have hqb:=hbb.size
       (try simp at hqa hqb)
       exact J _ _ A1 A2 c1 c2 _ (((Held.newAt _ aj 33 (by first | rfl | simp)).below hbb).alloc _) (Held.newAt _ aj 33 (by first | rfl | simp)) (by (try simp);(try omega)) (by (try simp);(try omega)) (by (try simp);(try omega)) hHeld ((((Reads.more hra (fun b hl h=>by (try simp at h hl ⊢) <;> omega)).alloc _).below hbb).alloc _) ((Reads.more hrb (fun b hl h=>by (try simp at h hl ⊢) <;> omega)).alloc _)
     · go_simp
       refine Zd hK (Below.alloc hHeld hHeld.size _) fun hHeld=>?_;clear hK K;refine tr 4 fun K hK=>?_;go_simp
       (go_at_call 64;refine (BJ r _).mono ?_;rintro e wb ⟨A2,c2,rfl,hrb,hbb⟩)
       refine Zd hK (hHeld.trans (hbb.mono hHeld.size)) fun hHeld=>?_;clear hK K;refine tk 5 ?_;have hqa:=hba.size;have hqb:=hbb.size
       (try simp at hqa hqb)
       exact J _ _ A1 A2 c1 c2 _ (((Held.newAt _ aj 33 (by first | rfl | simp)).alloc _).below hbb) ((Held.newAt _ aj 33 (by first | rfl | simp)).below hbb) (by (try simp);(try omega)) (by (try simp);(try omega)) (by (try simp);(try omega)) hHeld ((((Reads.more hra (fun b hl h=>by (try simp at h hl ⊢) <;> omega)).alloc _).alloc _).below hbb) (Reads.more hrb (fun b hl h=>by (try simp at h hl ⊢) <;> omega))
   · go_simp
     refine Zd hK (Below.alloc hHeld hHeld.size _) fun hHeld=>?_;clear hK K;refine ZX 4 6 (fun K hK=>?_) fun K hK=>?_
     · go_simp
       (go_at_call 64;refine (BJ r _).mono ?_;rintro e wb ⟨A2,c2,rfl,hrb,hbb⟩)
       refine Zd hK (hHeld.trans (hbb.mono hHeld.size)) fun hHeld=>?_;clear hK K;refine tk 5 ?_;refine tr 6 fun K hK=>?_;go_simp;refine Zd hK (Below.alloc hHeld hHeld.size _) fun hHeld=>?_;clear hK K;have hqa:=hba.size;have hqb:=hbb.size
       (try simp at hqa hqb)
       exact J _ _ A1 A2 c1 c2 _ (Held.newAt _ aj 33 (by first | rfl | simp)) (((Held.newAt _ aj 33 (by first | rfl | simp)).below hbb).alloc _) (by (try simp);(try omega)) (by (try simp);(try omega)) (by (try simp);(try omega)) hHeld ((((Reads.more hra (fun b hl h=>by (try simp at h hl ⊢) <;> omega)).alloc _).below hbb).alloc _) ((Reads.more hrb (fun b hl h=>by (try simp at h hl ⊢) <;> omega)).alloc _)
     · go_simp
       refine Zd hK (Below.alloc hHeld hHeld.size _) fun hHeld=>?_;clear hK K;refine tr 4 fun K hK=>?_;go_simp
       (go_at_call 64;refine (BJ r _).mono ?_;rintro e wb ⟨A2,c2,rfl,hrb,hbb⟩)
       refine Zd hK (hHeld.trans (hbb.mono hHeld.size)) fun hHeld=>?_;clear hK K;refine tk 5 ?_;have hqa:=hba.size;have hqb:=hbb.size
       (try simp at hqa hqb)
       exact J _ _ A1 A2 c1 c2 _ ((Held.newAt _ aj 33 (by first | rfl | simp)).below hbb) (((Held.newAt _ aj 33 (by first | rfl | simp)).alloc _).below hbb) (by (try simp);(try omega)) (by (try simp);(try omega)) (by (try simp);(try omega)) hHeld ((((Reads.more hra (fun b hl h=>by (try simp at h hl ⊢) <;> omega)).alloc _).alloc _).below hbb) (Reads.more hrb (fun b hl h=>by (try simp at h hl ⊢) <;> omega))
 · go_simp
   refine Zd hK (Below.alloc hHeld hHeld.size _) fun hHeld=>?_;clear hK K;refine ZX 1 7 (fun K hK=>?_) fun K hK=>?_
   · go_simp
     (go_at_call 64;refine (BJ r _).mono ?_;rintro e wa ⟨A1,c1,rfl,hra,hba⟩)
     refine Zd hK (hHeld.trans (hba.mono hHeld.size)) fun hHeld=>?_;clear hK K;refine tk 2 ?_;refine ZX 4 7 (fun K hK=>?_) fun K hK=>?_
     · go_simp
       (go_at_call 64;refine (BJ r _).mono ?_;rintro e wb ⟨A2,c2,rfl,hrb,hbb⟩)
       refine Zd hK (hHeld.trans (hbb.mono hHeld.size)) fun hHeld=>?_;clear hK K;refine tk 5 ?_;refine tr 7 fun K hK=>?_;go_simp;refine Zd hK (Below.alloc hHeld hHeld.size _) fun hHeld=>?_;clear hK K;have hqa:=hba.size;have hqb:=hbb.size
       (try simp at hqa hqb)
       exact J _ _ A1 A2 c1 c2 _ ((((Held.newAt _ aj 33 (by first | rfl | simp)).drew.below hba).below hbb).alloc _) (Held.newAt _ aj 33 (by first | rfl | simp)) (by (try simp);(try omega)) (by (try simp);(try omega)) (by (try simp);(try omega)) hHeld (((Reads.more hra (fun b hl h=>by (try simp at h hl ⊢) <;> omega)).below hbb).alloc _) ((Reads.more hrb (fun b hl h=>by (try simp at h hl ⊢) <;> omega)).alloc _)
     · go_simp
       refine Zd hK (Below.alloc hHeld hHeld.size _) fun hHeld=>?_;clear hK K;refine tr 4 fun K hK=>?_;go_simp
       (go_at_call 64;refine (BJ r _).mono ?_;rintro e wb ⟨A2,c2,rfl,hrb,hbb⟩)
       refine Zd hK (hHeld.trans (hbb.mono hHeld.size)) fun hHeld=>?_;clear hK K;refine tk 5 ?_;have hqa:=hba.size;have hqb:=hbb.size
       (try simp at hqa hqb)
       exact J _ _ A1 A2 c1 c2 _ ((((Held.newAt _ aj 33 (by first | rfl | simp)).drew.below hba).alloc _).below hbb) ((Held.newAt _ aj 33 (by first | rfl | simp)).below hbb) (by (try simp);(try omega)) (by (try simp);(try omega)) (by (try simp);(try omega)) hHeld (((Reads.more hra (fun b hl h=>by (try simp at h hl ⊢) <;> omega)).alloc _).below hbb) (Reads.more hrb (fun b hl h=>by (try simp at h hl ⊢) <;> omega))
   · go_simp
     refine Zd hK (Below.alloc hHeld hHeld.size _) fun hHeld=>?_;clear hK K;refine tr 1 fun K hK=>?_;go_simp
     (go_at_call 64;refine (BJ r _).mono ?_;rintro e wa ⟨A1,c1,rfl,hra,hba⟩)
     refine Zd hK (hHeld.trans (hba.mono hHeld.size)) fun hHeld=>?_;clear hK K;refine tk 2 ?_;refine tr 4 fun K hK=>?_;go_simp
     (go_at_call 64;refine (BJ r _).mono ?_;rintro e wb ⟨A2,c2,rfl,hrb,hbb⟩)
     refine Zd hK (hHeld.trans (hbb.mono hHeld.size)) fun hHeld=>?_;clear hK K;refine tk 5 ?_;have hqa:=hba.size;have hqb:=hbb.size
     (try simp at hqa hqb)
     exact J _ _ A1 A2 c1 c2 _ ((((Held.newAt _ aj 33 (by first | rfl | simp)).alloc _).drew.below hba).below hbb) (((Held.newAt _ aj 33 (by first | rfl | simp)).drew.below hba).below hbb) (by (try simp);(try omega)) (by (try simp);(try omega)) (by (try simp);(try omega)) hHeld ((Reads.more hra (fun b hl h=>by (try simp at h hl ⊢) <;> omega)).below hbb) (Reads.more hrb (fun b hl h=>by (try simp at h hl ⊢) <;> omega))
 · go_simp
   refine Zd hK (Below.alloc hHeld hHeld.size _) fun hHeld=>?_;clear hK K;refine ZX 1 6 (fun K hK=>?_) fun K hK=>?_
   · go_simp
     (go_at_call 64;refine (BJ r _).mono ?_;rintro e wa ⟨A1,c1,rfl,hra,hba⟩)
     refine Zd hK (hHeld.trans (hba.mono hHeld.size)) fun hHeld=>?_;clear hK K;refine tk 2 ?_;refine ZX 4 6 (fun K hK=>?_) fun K hK=>?_
     · go_simp
       (go_at_call 64;refine (BJ r _).mono ?_;rintro e wb ⟨A2,c2,rfl,hrb,hbb⟩)
       refine Zd hK (hHeld.trans (hbb.mono hHeld.size)) fun hHeld=>?_;clear hK K;refine tk 5 ?_;refine tr 6 fun K hK=>?_;go_simp;refine Zd hK (Below.alloc hHeld hHeld.size _) fun hHeld=>?_;clear hK K;have hqa:=hba.size;have hqb:=hbb.size
       (try simp at hqa hqb)
       exact J _ _ A1 A2 c1 c2 _ (Held.newAt _ aj 33 (by first | rfl | simp)) ((((Held.newAt _ aj 33 (by first | rfl | simp)).drew.below hba).below hbb).alloc _) (by (try simp);(try omega)) (by (try simp);(try omega)) (by (try simp);(try omega)) hHeld (((Reads.more hra (fun b hl h=>by (try simp at h hl ⊢) <;> omega)).below hbb).alloc _) ((Reads.more hrb (fun b hl h=>by (try simp at h hl ⊢) <;> omega)).alloc _)
     · go_simp
       refine Zd hK (Below.alloc hHeld hHeld.size _) fun hHeld=>?_;clear hK K;refine tr 4 fun K hK=>?_;go_simp
       (go_at_call 64;refine (BJ r _).mono ?_;rintro e wb ⟨A2,c2,rfl,hrb,hbb⟩)
       refine Zd hK (hHeld.trans (hbb.mono hHeld.size)) fun hHeld=>?_;clear hK K;refine tk 5 ?_;have hqa:=hba.size;have hqb:=hbb.size
       (try simp at hqa hqb)
       exact J _ _ A1 A2 c1 c2 _ ((Held.newAt _ aj 33 (by first | rfl | simp)).below hbb) ((((Held.newAt _ aj 33 (by first | rfl | simp)).drew.below hba).alloc _).below hbb) (by (try simp);(try omega)) (by (try simp);(try omega)) (by (try simp);(try omega)) hHeld (((Reads.more hra (fun b hl h=>by (try simp at h hl ⊢) <;> omega)).alloc _).below hbb) (Reads.more hrb (fun b hl h=>by (try simp at h hl ⊢) <;> omega))
   · go_simp
     refine Zd hK (Below.alloc hHeld hHeld.size _) fun hHeld=>?_;clear hK K;refine tr 1 fun K hK=>?_;go_simp
     (go_at_call 64;refine (BJ r _).mono ?_;rintro e wa ⟨A1,c1,rfl,hra,hba⟩)
     refine Zd hK (hHeld.trans (hba.mono hHeld.size)) fun hHeld=>?_;clear hK K;refine tk 2 ?_;refine tr 4 fun K hK=>?_;go_simp
     (go_at_call 64;refine (BJ r _).mono ?_;rintro e wb ⟨A2,c2,rfl,hrb,hbb⟩)
     refine Zd hK (hHeld.trans (hbb.mono hHeld.size)) fun hHeld=>?_;clear hK K;refine tk 5 ?_;have hqa:=hba.size;have hqb:=hbb.size
     (try simp at hqa hqb)
     exact J _ _ A1 A2 c1 c2 _ (((Held.newAt _ aj 33 (by first | rfl | simp)).drew.below hba).below hbb) ((((Held.newAt _ aj 33 (by first | rfl | simp)).alloc _).drew.below hba).below hbb) (by (try simp);(try omega)) (by (try simp);(try omega)) (by (try simp);(try omega)) hHeld ((Reads.more hra (fun b hl h=>by (try simp at h hl ⊢) <;> omega)).below hbb) (Reads.more hrb (fun b hl h=>by (try simp at h hl ⊢) <;> omega))
theorem aCO (r:M.Rules) (a b:List Sh) (A B:Option Addr) (c d:Nat) (w:World) (HR:Hid (M.aH r=0∧M.je (plain a)=0∧M.je (plain b)=0)) (HP:Hid (wG w (fun b=>b<w.heap.size) A c a∧wG w (fun b=>b<w.heap.size) B d b)):as3 r a b A B c d w:=by
 dsimp only [as3,apJ]
 intros
 rename_i W hf
 dsimp only [agJ,dQ,Tryz.f58,Option.getD]
 obtain ⟨p,q,⟨La,A1,c1,rfl,hla,hga,atx⟩,⟨Lb,B1,d1,rfl,hlb,hgb,atE⟩,rfl,rfl,npq,lp,lq,hX0,hY0,hbw⟩:=hf;rw [hla,hlb];obtain ⟨m,hm⟩:∃ m,max a.length b.length=m:=⟨_,rfl⟩
 have hmx:max (a.length:Int) (b.length:Int)=(m:Int):=by omega
 have hma:a.length≤m∧b.length≤m∧(m=a.length∨m=b.length):=by omega
 have hck:=HR.out;have l1:=((M.Zt _).1 hck.2.1).1;have l2:=((M.Zt _).1 hck.2.2).1;rw [eF] at l1 l2;have HLA:=hide (And.intro hla hlb);have hch:=ai3 r a b;rw [hm] at hch;have HCH:=hide hch
 have hX:∀ b:Nat,(b≠p∧b≠q)→¬ (b=p∨b=q):=fun b h=>by rintro (e | e);exact h.1 e;exact h.2 e
 have hXB:∀ b:Nat,(b=p∨b=q)→w.heap.size≤b:=fun b h=>by rcases h with rfl | rfl <;> assumption
 have HX:=hide (And.intro hX hXB);clear hla hlb hm hch hck hX hXB;apply wp_seq_k;intro K hK;have HK:=hide hK;clear hK;apply wp_seq_k;intro K2 hK2;have PD:=hide hK2;clear hK2;go_wp2;refine PD.out _ _ ?_;clear hmx;go_wp2
 go_loopw [41] (fun i wr=>∃ k:Nat,k≤m∧i= .int .i64 k∧M.changed r (plain a) (plain b)=M.DT (chF r a b) (k+1) (m - k)∧ChI r a b p q k W wr) (fun i _=>m - (intOf i).toNat)
 case atStart=>exact ⟨0,Nat.zero_le _,rfl,HCH.out,Turn.refl _ _,hX0,hY0⟩
 case round=>
  obtain ⟨k,hk,rfl,hf,hI⟩:=hrel;have HF:=hide hf;clear hf hX0 hY0
  by_cases hlt:k<m
  · have hst:=M.ZP (chF r a b) hlt
    obtain ⟨v,hv⟩:∃ v,chF r a b (k+1)=v:=⟨_,rfl⟩
    have hf2:M.changed r (plain a) (plain b)=if v then M.DT (chF r a b) (k+1+1) (m - (k+1)) else ((k+1:Nat):Int):=by rw [← hv];exact HF.out.trans hst
    have HF2:=hide hf2;obtain ⟨As,cs,hp,hpr⟩:=hI.x;obtain ⟨At,ct,hq,hqr⟩:=hI.y;obtain ⟨hla,hlb⟩:=HLA.out;obtain ⟨hX,hXB⟩:=HX.out;clear hst hf2 HF
    by_cases pa:k<a.length
    · by_cases pb:k<b.length
      · obtain ⟨ba,oa,Aa,ca,rfl,hSa,aAj,hra,hba⟩:=akN hla hga (atx.turn hI.t hX) pa
        obtain ⟨bb,ob,Ab,cb,rfl,hSb,aAq,hrb,hbb⟩:=akN hlb hgb (atE.turn hI.t hX) pb;obtain ⟨sa,hsa⟩:∃ q,M.TS r (plain a) (k+1)=q:=⟨_,rfl⟩;obtain ⟨sb,hsb⟩:∃ q,M.TS r (plain b) (k+1)=q:=⟨_,rfl⟩
        have hv2:sa.eq sb=v:=by rw [← hsa, ← hsb];exact hv
        rw [hsa] at hra hba;rw [hsb] at hrb hbb;have ayQ:(wr.setCells p 0 (aW sa Aa ca)).rangeAt bb (ob+k*15) (aW sb Ab cb):=fun j v hj=>(kN _ _ _ _ hSb.1).trans (hrb j v hj);have hq1:Held (wr.setCells p 0 (aW sa Aa ca)) q (aW (M.TS r (plain b) k) At ct) 33:=Held.others npq.symm _ _ _ hq
        have t1:decide (k<a.length)=true:=by simp;omega
        have t2:decide (k<b.length)=true:=by simp;omega
        have u1:((k:Int)<(a.length:Int)):=by omega
        have u2:((k:Int)<(b.length:Int)):=by omega
        have i1:(0:Int)≤(k:Int):=by omega
        have i2:(k:Int)<(m:Int):=by omega
        have HSB:=hide (And.intro hsa hsb);clear hsa hsb hv pa pb
        go_upto_region 13 with (first | (refine aN 33 (.tmp 50) rfl ?_;refine jh (g:=ba) (o:=oa+k*15) hra Tryz.underlying33 rfl bW rfl (.tmp 50) rfl rfl ?_) | (refine aO 33 (.tmp 11) (.tmp 51) rfl ?_;refine aF hp (aW sa Aa ca) rfl bW (dL _ _ _) rfl (.tmp 11) (.tmp 51) rfl rfl rfl ?_) | (refine aN 33 (.tmp 58) rfl ?_;refine jh (g:=bb) (o:=ob+k*15) ayQ Tryz.underlying33 rfl bW rfl (.tmp 58) rfl rfl ?_) | (refine aO 33 (.tmp 12) (.tmp 59) rfl ?_;refine aF hq1 (aW sb Ab cb) rfl bW (dL _ _ _) rfl (.tmp 12) (.tmp 59) rfl rfl rfl ?_))
        refine adr (p:=fun W=>Code.wp _ _ _ _ W) (fun w2 hw2=>?_)
        have hP2:Held w2 p (aW sa Aa ca) 33:=by rw [hw2];exact Held.others npq _ _ _ (hp.whole _ rfl)
        have hQ2:Held w2 q (aW sb Ab cb) 33:=by rw [hw2];exact hq1.whole _ rfl
        have rP2:bD w2 (fun b=>b≠p∧b≠q) Aa ca sa.ay:=by rw [hw2];exact (bD.sets (fun h=>h.2 rfl) _ _ _ (bD.sets (fun h=>h.1 rfl) _ _ _ hba))
        have rQ2:bD w2 (fun b=>b≠p∧b≠q) Ab cb sb.ay:=by rw [hw2];exact (bD.sets (fun h=>h.2 rfl) _ _ _ (bD.sets (fun h=>h.1 rfl) _ _ _ hbb))
        have T2:Turn (fun b=>b=p∨b=q) W w2:=by rw [hw2];exact ((hI.t.trans (l7 (X:=fun b=>b=p∨b=q) (.inl rfl) _ _) (fun b h=> .inl h)).trans (l7 (X:=fun b=>b=p∨b=q) (.inr rfl) _ _) (fun b h=> .inl h))
        have hsm:=afp _ _ sa sb Aa Ab ca cb w2 rP2 rQ2;rw [hv2] at hsm;have HSM:=hide hsm;clear hsm hv2 hw2 hp hq hpr hqr hI
        cases v with
        | true=>
          go_wp2_with (first | (refine aN 33 (.tmp 11) rfl ?_;refine aG (hP2) Tryz.underlying33 rfl bW rfl (.tmp 11) rfl rfl ?_) | (refine aN 33 (.tmp 12) rfl ?_;refine aG (hQ2) Tryz.underlying33 rfl bW rfl (.tmp 12) rfl rfl ?_) | (go_at_call 108;refine HSM.out.mono ?_;rintro e w3 ⟨rfl,hb3⟩;dsimp only))
          go_roundw
          case rel=>exact ⟨k+1,by omega,by go_num,HF2.out,T2.trans (X':=fun _=>False) (Turn.of_below hb3) (fun b h=>h.elim),⟨_,_,by rw [HSB.out.1];exact hP2.below hb3,by rw [HSB.out.1];exact rP2.below hb3⟩,⟨_,_,by rw [HSB.out.2];exact hQ2.below hb3,by rw [HSB.out.2];exact rQ2.below hb3⟩⟩
          case measure=>simp [intOf];omega
        | false=>
          go_wp2_with (first | (refine aN 33 (.tmp 11) rfl ?_;refine aG (hP2) Tryz.underlying33 rfl bW rfl (.tmp 11) rfl rfl ?_) | (refine aN 33 (.tmp 12) rfl ?_;refine aG (hQ2) Tryz.underlying33 rfl bW rfl (.tmp 12) rfl rfl ?_) | (go_at_call 108;refine HSM.out.mono ?_;rintro e w3 ⟨rfl,hb3⟩;dsimp only))
          go_ret2;exact ⟨by rw [HF2.out] <;> first | rfl | (push_cast;rfl),(kS hbw T2 hXB hbw.size).trans (hb3.mono (by have:=hbw.size;have:=T2.size;omega))⟩
      · obtain ⟨ba,oa,Aa,ca,rfl,hSa,aAj,hra,hba⟩:=akN hla hga (atx.turn hI.t hX) pa
        rw [← ajv pb] at hq hqr;obtain ⟨sa,hsa⟩:∃ q,M.TS r (plain a) (k+1)=q:=⟨_,rfl⟩;obtain ⟨sb,hsb⟩:∃ q,M.TS r (plain b) (k+1)=q:=⟨_,rfl⟩
        have hv2:sa.eq sb=v:=by rw [← hsa, ← hsb];exact hv
        rw [hsa] at hra hba;rw [hsb] at hq hqr
        have t1:decide (k<a.length)=true:=by simp;omega
        have t2:decide (k<b.length)=false:=by simp;omega
        have u1:((k:Int)<(a.length:Int)):=by omega
        have u2:¬ ((k:Int)<(b.length:Int)):=by omega
        have i1:(0:Int)≤(k:Int):=by omega
        have i2:(k:Int)<(m:Int):=by omega
        have HSB:=hide (And.intro hsa hsb);clear hsa hsb hv pa pb
        go_upto_region 13 with (first | (refine aN 33 (.tmp 50) rfl ?_;refine jh (g:=ba) (o:=oa+k*15) hra Tryz.underlying33 rfl bW rfl (.tmp 50) rfl rfl ?_) | (refine aO 33 (.tmp 11) (.tmp 51) rfl ?_;refine aF hp (aW sa Aa ca) rfl bW (dL _ _ _) rfl (.tmp 11) (.tmp 51) rfl rfl rfl ?_))
        refine adr (p:=fun W=>Code.wp _ _ _ _ W) (fun w2 hw2=>?_)
        have hP2:Held w2 p (aW sa Aa ca) 33:=by rw [hw2];exact hp.whole _ rfl
        have hQ2:Held w2 q (aW sb At ct) 33:=by rw [hw2];exact Held.others npq.symm _ _ _ hq
        have rP2:bD w2 (fun b=>b≠p∧b≠q) Aa ca sa.ay:=by rw [hw2];exact (bD.sets (fun h=>h.1 rfl) _ _ _ hba)
        have rQ2:bD w2 (fun b=>b≠p∧b≠q) At ct sb.ay:=by rw [hw2];exact (bD.sets (fun h=>h.1 rfl) _ _ _ hqr)
        have T2:Turn (fun b=>b=p∨b=q) W w2:=by rw [hw2];exact (hI.t.trans (l7 (X:=fun b=>b=p∨b=q) (.inl rfl) _ _) (fun b h=> .inl h))
        have hsm:=afp _ _ sa sb Aa At ca ct w2 rP2 rQ2;rw [hv2] at hsm;have HSM:=hide hsm;clear hsm hv2 hw2 hp hq hpr hqr hI
        cases v with
        | true=>
          go_wp2_with (first | (refine aN 33 (.tmp 11) rfl ?_;refine aG (hP2) Tryz.underlying33 rfl bW rfl (.tmp 11) rfl rfl ?_) | (refine aN 33 (.tmp 12) rfl ?_;refine aG (hQ2) Tryz.underlying33 rfl bW rfl (.tmp 12) rfl rfl ?_) | (go_at_call 108;refine HSM.out.mono ?_;rintro e w3 ⟨rfl,hb3⟩;dsimp only))
          go_roundw
          case rel=>exact ⟨k+1,by omega,by go_num,HF2.out,T2.trans (X':=fun _=>False) (Turn.of_below hb3) (fun b h=>h.elim),⟨_,_,by rw [HSB.out.1];exact hP2.below hb3,by rw [HSB.out.1];exact rP2.below hb3⟩,⟨_,_,by rw [HSB.out.2];exact hQ2.below hb3,by rw [HSB.out.2];exact rQ2.below hb3⟩⟩
          case measure=>simp [intOf];omega
        | false=>
          go_wp2_with (first | (refine aN 33 (.tmp 11) rfl ?_;refine aG (hP2) Tryz.underlying33 rfl bW rfl (.tmp 11) rfl rfl ?_) | (refine aN 33 (.tmp 12) rfl ?_;refine aG (hQ2) Tryz.underlying33 rfl bW rfl (.tmp 12) rfl rfl ?_) | (go_at_call 108;refine HSM.out.mono ?_;rintro e w3 ⟨rfl,hb3⟩;dsimp only))
          go_ret2;exact ⟨by rw [HF2.out] <;> first | rfl | (push_cast;rfl),(kS hbw T2 hXB hbw.size).trans (hb3.mono (by have:=hbw.size;have:=T2.size;omega))⟩
    · have pb:k<b.length:=by omega
      rw [← ajv pa] at hp hpr;obtain ⟨bb,ob,Ab,cb,rfl,hSb,aAq,hrb,hbb⟩:=akN hlb hgb (atE.turn hI.t hX) pb;obtain ⟨sa,hsa⟩:∃ q,M.TS r (plain a) (k+1)=q:=⟨_,rfl⟩;obtain ⟨sb,hsb⟩:∃ q,M.TS r (plain b) (k+1)=q:=⟨_,rfl⟩
      have hv2:sa.eq sb=v:=by rw [← hsa, ← hsb];exact hv
      rw [hsa] at hp hpr;rw [hsb] at hrb hbb;have ayQ:=hrb;have hq1:=hq
      have t1:decide (k<a.length)=false:=by simp;omega
      have t2:decide (k<b.length)=true:=by simp;omega
      have u1:¬ ((k:Int)<(a.length:Int)):=by omega
      have u2:((k:Int)<(b.length:Int)):=by omega
      have i1:(0:Int)≤(k:Int):=by omega
      have i2:(k:Int)<(m:Int):=by omega
      have HSB:=hide (And.intro hsa hsb);clear hsa hsb hv pa pb
      go_upto_region 13 with (first | (refine aN 33 (.tmp 58) rfl ?_;refine jh (g:=bb) (o:=ob+k*15) ayQ Tryz.underlying33 rfl bW rfl (.tmp 58) rfl rfl ?_) | (refine aO 33 (.tmp 12) (.tmp 59) rfl ?_;refine aF hq1 (aW sb Ab cb) rfl bW (dL _ _ _) rfl (.tmp 12) (.tmp 59) rfl rfl rfl ?_))
      refine adr (p:=fun W=>Code.wp _ _ _ _ W) (fun w2 hw2=>?_)
      have hP2:Held w2 p (aW sa As cs) 33:=by rw [hw2];exact Held.others npq _ _ _ (hp)
      have hQ2:Held w2 q (aW sb Ab cb) 33:=by rw [hw2];exact hq1.whole _ rfl
      have rP2:bD w2 (fun b=>b≠p∧b≠q) As cs sa.ay:=by rw [hw2];exact (bD.sets (fun h=>h.2 rfl) _ _ _ hpr)
      have rQ2:bD w2 (fun b=>b≠p∧b≠q) Ab cb sb.ay:=by rw [hw2];exact (bD.sets (fun h=>h.2 rfl) _ _ _ hbb)
      have T2:Turn (fun b=>b=p∨b=q) W w2:=by rw [hw2];exact (hI.t.trans (l7 (X:=fun b=>b=p∨b=q) (.inr rfl) _ _) (fun b h=> .inl h))
      have hsm:=afp _ _ sa sb As Ab cs cb w2 rP2 rQ2;rw [hv2] at hsm;have HSM:=hide hsm;clear hsm hv2 hw2 hp hq hpr hqr hI
      cases v with
      | true=>
        go_wp2_with (first | (refine aN 33 (.tmp 11) rfl ?_;refine aG (hP2) Tryz.underlying33 rfl bW rfl (.tmp 11) rfl rfl ?_) | (refine aN 33 (.tmp 12) rfl ?_;refine aG (hQ2) Tryz.underlying33 rfl bW rfl (.tmp 12) rfl rfl ?_) | (go_at_call 108;refine HSM.out.mono ?_;rintro e w3 ⟨rfl,hb3⟩;dsimp only))
        go_roundw
        case rel=>exact ⟨k+1,by omega,by go_num,HF2.out,T2.trans (X':=fun _=>False) (Turn.of_below hb3) (fun b h=>h.elim),⟨_,_,by rw [HSB.out.1];exact hP2.below hb3,by rw [HSB.out.1];exact rP2.below hb3⟩,⟨_,_,by rw [HSB.out.2];exact hQ2.below hb3,by rw [HSB.out.2];exact rQ2.below hb3⟩⟩
        case measure=>simp [intOf];omega
      | false=>
        go_wp2_with (first | (refine aN 33 (.tmp 11) rfl ?_;refine aG (hP2) Tryz.underlying33 rfl bW rfl (.tmp 11) rfl rfl ?_) | (refine aN 33 (.tmp 12) rfl ?_;refine aG (hQ2) Tryz.underlying33 rfl bW rfl (.tmp 12) rfl rfl ?_) | (go_at_call 108;refine HSM.out.mono ?_;rintro e w3 ⟨rfl,hb3⟩;dsimp only))
        go_ret2;exact ⟨by rw [HF2.out] <;> first | rfl | (push_cast;rfl),(kS hbw T2 hXB hbw.size).trans (hb3.mono (by have:=hbw.size;have:=T2.size;omega))⟩
  · have hke:k=m:=by omega
    have i9:¬ ((k:Int)<(m:Int)):=by omega
    have hf2:M.changed r (plain a) (plain b)=0:=HF.out.trans (by rw [hke,Nat.sub_self];rfl);have HF2:=hide hf2;have T2:=hI.t;obtain ⟨hX,hXB⟩:=HX.out;clear hf2 hke hlt hI;go_wp2;refine HK.out _ _ ?_;go_wp2;go_ret2;exact ⟨by rw [HF2.out] <;> rfl,kS hbw T2 hXB hbw.size⟩
def abv (r:M.Rules) (a b:List M.aI):Int:=aU [aU [M.aH r,M.je a],M.je b]
def aef (r:M.Rules) (a b:List M.aI):Int:=if abv r a b=0 then M.changed r a b else 0
theorem aja {a b:Int} (h:aU [a,b]=0):a=0∧b=0:=by
 unfold aU aU aU at h
 by_cases ha:a=0
 · by_cases hb:b=0
   · exact ⟨ha,hb⟩
   · simp [ha,hb] at h
 · simp [ha] at h
theorem ajQ (r:M.Rules) (a b:List Sh) (A B:Option Addr) (c d:Nat) (w:World) (hp0:wG w (fun _=>True) A c a) (hq0:wG w (fun _=>True) B d b):
 Calls Tryz.prog 58 #[jM r,.slice A a.length c,.slice B b.length d] w fun e w'=>e= .returned (.tuple #[.int .i64 (aef r (plain a) (plain b)),.int .i64 (abv r (plain a) (plain b))])∧Below w.heap.size w w':=by
 have hp:=hp0.more (S':=fun b=>b<w.heap.size) (fun b hb _=>hb);have hq:=hq0.more (S':=fun b=>b<w.heap.size) (fun b hb _=>hb);have HP:=hide (And.intro hp hq);obtain ⟨E1,hE1⟩:∃ q,aU [M.aH r,M.je (plain a)]=q:=⟨_,rfl⟩;obtain ⟨E2,hE2⟩:∃ q,M.je (plain b)=q:=⟨_,rfl⟩;obtain ⟨E,hE⟩:∃ q,aU [E1,E2]=q:=⟨_,rfl⟩
 have hEE:abv r (plain a) (plain b)=E:=by unfold abv;rw [hE1,hE2,hE]
 have hck:=fun W h=>check_any (fun b=>b<w.heap.size) r a A c W h;have hcl:=fun W h=>Hq (fun b=>b<w.heap.size) b B d W h;have hfi:=fun A c W h=>first_any (fun _=>True) A c [E1,E2] W h
 simp only [hE1] at hck
 simp only [hE2] at hcl
 simp only [hE] at hfi
 have wZ:=hide hck;have JF:=hide hcl;have HFI:=hide hfi;clear hck hcl hfi hp0 hq0
 by_cases h0:E=0
 rotate_left
 · have q0:(E != 0)=true:=by simpa using h0
   have hv:aef r (plain a) (plain b)=0:=if_neg (by rw [hEE];exact h0);have HV:=hide (And.intro hv hEE);clear hv hEE h0 hE hE1 hE2
   go_enter Tryz.func58,Tryz.ntmps58
   have hB:=(bU.nil w).new (by simp) ([.string r.game,.int .i64 r.target,.int .i64 r.aY]) 23
   go_wp2_with (first | (refine aN 23 (.tmp 3) rfl ?_;refine aG (hB.bf rfl) Tryz.underlying23 rfl kV rfl (.tmp 3) rfl rfl ?_) | (go_at_call 63;refine (wZ.out _ (hp.below hB.bw)).mono ?_;rintro e w1 ⟨rfl,hb1⟩;have hB1:=hB.call (by simp) hb1;dsimp only) | (go_at_call 40;refine (JF.out _ (hq.below hB1.bw)).mono ?_;rintro e w2 ⟨rfl,hb2⟩;have hB2:=hB1.call (by simp) hb2;dsimp only) | (go_at_call 85;refine (HFI.out _ _ _ (bD.lit _ _ _ (by simp) _ trivial)).mono ?_;rintro e w8 ⟨rfl,rfl⟩;dsimp only))
   go_ret2;exact ⟨by rw [HV.out.1,HV.out.2] <;> rfl,hB2.bw.alloc hB2.bw.size _⟩
 subst h0;have q0:((0:Int) != 0)=false:=rfl;have h12:=aja hE;obtain ⟨rfl,rfl⟩:=h12;have h13:=aja hE1;have hv:aef r (plain a) (plain b)=M.changed r (plain a) (plain b):=if_pos hEE;have HR:Hid (M.aH r=0∧M.je (plain a)=0∧M.je (plain b)=0):=hide ⟨h13.1,h13.2,hE2⟩;have hall:=aCA r a b A B c d w HR HP (hide (aCH r a b A B c d w HR HP (hide (aCO r a b A B c d w HR HP))));have ajC:=hide hall;rw [hv,hEE];clear hall hv hEE hE hE1 hE2 h13
 go_enter Tryz.func58,Tryz.ntmps58
 apply wp_seq_k;intro K0 hK0;have YE:=hide hK0;clear hK0;go_wp2;refine YE.out _ _ ?_;refine adr (p:=fun W=>Code.wp _ _ _ _ W) (fun w0 hw0=>?_)
 have hB:bU w w0 [([.string r.game,.int .i64 r.target,.int .i64 r.aY],23)]:=by rw [hw0];exact (bU.nil w).new (by simp) ([.string r.game,.int .i64 r.target,.int .i64 r.aY]) 23
 clear hw0;apply wp_seq_k;intro K hK;have HK:=hide hK;clear hK
 go_wp2_with (first | (refine aN 23 (.tmp 3) rfl ?_;refine aG (hB.bf rfl) Tryz.underlying23 rfl kV rfl (.tmp 3) rfl rfl ?_) | (go_at_call 63;refine (wZ.out _ (hp.below hB.bw)).mono ?_;rintro e w1 ⟨rfl,hb1⟩;have hB1:=hB.call (by simp) hb1;dsimp only) | (go_at_call 40;refine (JF.out _ (hq.below hB1.bw)).mono ?_;rintro e w2 ⟨rfl,hb2⟩;have hB2:=hB1.call (by simp) hb2;dsimp only) | (go_at_call 85;refine (HFI.out _ _ _ (bD.lit _ _ _ (by simp) _ trivial)).mono ?_;rintro e w8 ⟨rfl,rfl⟩;dsimp only))
 refine HK.out _ _ ?_;have HA:=ajC.out;apply HA;exact ⟨rfl,rfl,rfl,(hB2.bf rfl).alloc _,hB2.bw.alloc hB2.bw.size _⟩
theorem ain (S S':Nat→Prop) (r:M.Rules) (a b:List Sh) (A B:Option Addr) (c d:Nat) (w:World) (hp:wG w S A c a) (hq:wG w S' B d b) (hr:M.aH r=0) (ha:M.je (plain a)=0) (hb:M.je (plain b)=0):
 Calls Tryz.prog 59 #[jM r,.slice A a.length c,.slice B b.length d] w fun e w'=>e= .returned (.int .i64 (M.changed r (plain a) (plain b)))∧Below w.heap.size w w':=by
 have l1:=((M.Zt _).1 ha).1;have l2:=((M.Zt _).1 hb).1;rw [eF] at l1 l2;have hall:=aCV r a b w (hide ⟨l1,l2⟩);have ajC:=hide hall;have HC:=hide (And.intro hr (And.intro ha hb));clear hall hr ha hb
 go_enter Tryz.func59,Tryz.ntmps59
 apply wp_seq_k;intro K hK;have HK:=hide hK;clear hK;go_wp2;refine HK.out _ _ ?_;refine adr (p:=fun W=>Code.wp _ _ _ _ W) (fun w0 hw0=>?_)
 have hB:bU w w0 [([.string r.game,.int .i64 r.target,.int .i64 r.aY],25)]:=by rw [hw0];exact (bU.nil w).new (by simp) ([.string r.game,.int .i64 r.target,.int .i64 r.aY]) 25
 clear hw0;have hsa:=fun W' (h:(fun w':World=>Below w0.heap.size w0 w') W')=>aaj _ r a A c W' ((hp.below hB.bw).below h) HC.out.1 HC.out.2.1;have hsb:=fun W' (h:(fun w':World=>Below w0.heap.size w0 w') W')=>aaj _ r b B d W' ((hq.below hB.bw).below h) HC.out.1 HC.out.2.2;have HSA:=hide hsa;have HSB:=hide hsb;have Vh:∀ W',(fun w':World=>Below w0.heap.size w0 w') W'→W'.rangeAt w.heap.size 0 ([.string r.game,.int .i64 r.target,.int .i64 r.aY]):=fun W' h=>((hB.bf rfl).below h).range;clear hsa hsb;have tok1:True:=trivial;apply wp_seq_k;intro K1 hK1;have Q9:=hide hK1;clear hK1;refine wp_region_held_drew (S:=(fun w':World=>Below w0.heap.size w0 w')) (by kernel_rfl) ?eP (fun hHeld=>?_)
 case eP=>exact (Below.refl _ _).drew
 refine Zf 0 Vh Tryz.underlying25 ?_;refine tk 1 ?_;refine Zf 3 Vh Tryz.underlying25 ?_;refine tk 4 ?_;refine tr 2 fun K hK=>?_;go_simp
 (go_at_call 67;(first | (have _t:=tok1;clear tok1;refine (HSA.out _ hHeld).mono ?_;rintro e wa ⟨La,A1,c1,rfl,hla,hra,hba⟩) | (refine (HSB.out _ hHeld).mono ?_;rintro e wb ⟨Lb,A2,c2,rfl,hlb,hrb,hbb⟩)))
 refine Zd hK (hHeld.trans (hba.mono hHeld.size)) fun hHeld=>?_;clear hK K;refine tr 5 fun K hK=>?_;go_simp
 (go_at_call 67;(first | (have _t:=tok1;clear tok1;refine (HSA.out _ hHeld).mono ?_;rintro e wa ⟨La,A1,c1,rfl,hla,hra,hba⟩) | (refine (HSB.out _ hHeld).mono ?_;rintro e wb ⟨Lb,A2,c2,rfl,hlb,hrb,hbb⟩)))
 refine Zd hK (hHeld.trans (hbb.mono hHeld.size)) fun hHeld=>?_;clear hK K;refine tk 6 ?_;refine tk 7 ?_;refine wpAnyH_done (by kernel_rfl) ?_ _;refine Q9.out _ _ ?_;have HA:=ajC.out;apply HA;exact ⟨⟨La,A1,c1,rfl,hla,(hra.below hbb).more (fun _ _ _=>trivial)⟩,⟨Lb,A2,c2,rfl,hlb,hrb.more (fun _ _ _=>trivial)⟩,hB.bw.trans (hHeld.mono hB.bw.size)⟩
def clC (a:Int × Int):List Value:=[.int .i64 a.1,.int .i64 a.2]
theorem ajJ (a:Int × Int):(clC a).length=2:=rfl
def RdC (w:World) (S:Nat→Prop) (A:Option Addr) (c:Nat) (C:List (Int × Int)):Prop:=Reads w S 2 A C.length c (C.flatMap clC)
def auF (r:M.Rules) (l:List Sh) (C:List (Int × Int)) (n:Nat):Bool:=decide (((M.TS r (plain l) n).s0,(M.TS r (plain l) n).s1)=C.getD (n - 1) (0,0))
def auE (l:List Sh) (C:List (Int × Int)):Int:=if C.length=l.length then 0 else 2
def auV (r:M.Rules) (l:List Sh) (C:List (Int × Int)):Int:=if C.length=l.length then M.aa6 r (plain l) C else 0
theorem aos (r:M.Rules) (l:List Sh) (C:List (Int × Int)):M.aa6 r (plain l) C=M.DT (auF r l C) 1 l.length:=by unfold M.aa6;rw [eF];rfl
theorem ayh {r:M.Rules} {l:List Sh} {C:List (Int × Int)} {k:Nat} (hk:k<C.length):auF r l C (k+1)=(((lQ r l (k+1)).s0 == C[k].1) && ((lQ r l (k+1)).s1 == C[k].2)):=by
 unfold auF
 rw [afK,Nat.add_sub_cancel,List.getD_eq_getElem?_getD,List.getElem?_eq_getElem hk,Option.getD_some,Bool.eq_iff_iff];obtain ⟨a,b⟩:=C[k]
 simp
theorem aaS {r:M.Rules} {l:List Sh} {C:List (Int × Int)} {k:Nat} (hk:k<C.length) {v:Bool} (hv:auF r l C (k+1)=v) (w:World):(Op.equalIn 10000 31 (.agg #[.int .i64 (lQ r l (k+1)).s0,.int .i64 (lQ r l (k+1)).s1]) (.agg #[.int .i64 C[k].1,.int .i64 C[k].2])).run Tryz.prog w= .ok v w:=by
 rw [ZW, ← ayh hk,hv]
theorem aj6 (S S':Nat→Prop) (r:M.Rules) (l:List Sh) (C:List (Int × Int)) (A0 A1:Option Addr) (c0 c1:Nat) (w:World) (hp:wG w S A0 c0 l) (hc:RdC w S' A1 c1 C) (hr:M.aH r=0) (hl:M.je (plain l)=0):
 Calls Tryz.prog 61 #[jM r,.slice A0 l.length c0,.slice A1 C.length c1] w fun e w'=>e= .returned (.tuple #[.int .i64 (auV r l C),.int .i64 (auE l C)])∧Below w.heap.size w w':=by
 obtain ⟨b1,b2,b3⟩:=hp.bd;obtain ⟨d1,d2,d3⟩:=hc.bd
 by_cases hn:C.length=l.length
 rotate_left
 · have q:((C.length:Int) != (l.length:Int))=true:=by simp;omega
   have HV:=hide (show auV r l C=0 from if_neg hn);have HE:=hide (show auE l C=2 from if_neg hn);clear hn
   go_enter Tryz.func61,Tryz.ntmps61
   have hB:=(bU.nil w).new (by simp) ([.string r.game,.int .i64 r.target,.int .i64 r.aY]) 25;go_wp2;go_ret2;exact ⟨by rw [HV.out,HE.out] <;> rfl,hB.bw⟩
 have q:((C.length:Int) != (l.length:Int))=false:=by rw [hn];simp
 have HV:=hide (show auV r l C=M.DT (auF r l C) (0+1) (l.length - 0) from (if_pos hn).trans (aos r l C));have HE:=hide (show auE l C=0 from if_pos hn);have HN:=hide hn;have hlen:=((M.Zt _).1 hl).1;rw [eF] at hlen;have hp:=hp.more (S':=fun b=>S b∧b<w.heap.size) (fun b hb h=>⟨h,hb⟩);have hst:=fun W h=>aaj (fun b=>S b∧b<w.heap.size) r l A0 c0 W h hr hl;have HST:=hide hst;have HR:=hide (And.intro hr hl);clear hst hr hl hn
 go_enter Tryz.func61,Tryz.ntmps61
 go_upto_region 3 with (fail)
 refine ZA (p:=fun W=>Code.wp _ _ _ _ W) (fun w0 hw0=>?_)
 have hB:bU w w0 [([.string r.game,.int .i64 r.target,.int .i64 r.aY],25)]:=by rw [hw0];exact (bU.nil w).new (by simp) ([.string r.game,.int .i64 r.target,.int .i64 r.aY]) 25
 clear hw0 q
 go_upto_region 4 with (first | (refine aN 25 (.tmp 3) rfl ?_;refine aG (hB.bf rfl) Tryz.underlying25 rfl Zw rfl (.tmp 3) rfl rfl ?_) | (go_at_call 67;refine (HST.out _ (hp.below hB.bw)).mono ?_;rintro e w1 ⟨L,Ax,cx,rfl,hl1,hr1,hb1⟩;have hB1:=hB.call (by simp) hb1))
 have hsz:=hB.size (by simp)
 simp only [List.length_cons,List.length_nil] at hsz
 have hT:apQ S r l w 1 L Ax cx w1:=⟨hl1,hB1.bf rfl,hr1.more (fun b _ h=>by rcases h with h | h;exact .inl h.1;exact .inr (by omega)),hB1.bw⟩;have hcw:=Reads.below hc hB1.bw;obtain ⟨bs,os,rfl,hbs,hAt⟩:=hT.at_;have hLL:=hT.lst.len;have hbw:=hT.bw;have hnc:=HN.out;have HLL:=hide hLL;have HNC:=hide hnc;clear hsz hB hB1 hb1 hl1 hr1 HST hT hp hLL hnc;go_wp2
 go_loopw [9] (fun i wr=>∃ k:Nat,k≤l.length∧i= .int .i64 k∧M.DT (auF r l C) (0+1) (l.length - 0)=M.DT (auF r l C) (k+1) (l.length - k)∧∃ n,wr=w1.drewN n) (fun i _=>l.length - (intOf i).toNat)
 case atStart=>exact ⟨0,Nat.zero_le _,rfl,rfl,0,rfl⟩
 case round=>
  obtain ⟨k,hk,rfl,hf,nd,rfl⟩:=hrel;have HF:=hide hf;clear hf
  have i1:(0:Int)≤(k:Int):=by omega
  by_cases hlt:k<l.length
  · have hst:=M.ZP (auF r l C) hlt
    have HST:=hide hst;clear hst;obtain ⟨As,cs,hsr,hsb⟩:=hAt (k+1) (by omega);have s7:w1.cell? ⟨bs,os+(k+1)*15+7,none⟩=some (.int .i64 (lQ r l (k+1)).s0):=hsr 7 _ rfl;have s8:w1.cell? ⟨bs,os+(k+1)*15+8,none⟩=some (.int .i64 (lQ r l (k+1)).s1):=hsr 8 _ rfl
    have hkc:k<C.length:=by have:=HNC.out;omega
    obtain ⟨b,o,rfl,_,hbl,hcs⟩:=Reads.at_ hcw (by omega);have h00:=aax ajJ hcs k hkc;have c0:w1.cell? ⟨b,o+k*2,none⟩=some (.int .i64 C[k].1):=h00 0 _ rfl;have c1:w1.cell? ⟨b,o+k*2+1,none⟩=some (.int .i64 C[k].2):=h00 1 _ rfl
    have i2:(k:Int)<(l.length:Int):=by omega
    have i3:(k:Int)<(C.length:Int):=by omega
    have i4:(k:Int)+1<(L.length:Int):=by have:=HLL.out;omega
    have zC:=ZV
    cases hv:auF r l C (k+1) with
    | true=>
      have hsc:=fun w=>aaS hkc hv w;have hf2:M.DT (auF r l C) (0+1) (l.length - 0)=M.DT (auF r l C) (k+1+1) (l.length - (k+1)):=HF.out.trans (HST.out.trans (by rw [hv];rfl));have HF2:=hide hf2;obtain ⟨x0,hx0⟩:∃ q,(lQ r l (k+1)).s0=q:=⟨_,rfl⟩;obtain ⟨x1,hx1⟩:∃ q,(lQ r l (k+1)).s1=q:=⟨_,rfl⟩;rw [hx0] at s7 hsc;rw [hx1] at s8 hsc;clear hf2 hv hx0 hx1 hsr hsb h00 hcs HF HST;go_wp2
      go_quiet (fail)
      go_wp2
      go_roundw
      case rel=>exact ⟨k+1,by omega,by go_num,HF2.out,_,rfl⟩
      case measure=>simp [intOf];omega
    | false=>
      have hsc:=fun w=>aaS hkc hv w;have hf2:M.DT (auF r l C) (0+1) (l.length - 0)=((k+1:Nat):Int):=HF.out.trans (HST.out.trans (by rw [hv];rfl));have HF2:=hide hf2;obtain ⟨x0,hx0⟩:∃ q,(lQ r l (k+1)).s0=q:=⟨_,rfl⟩;obtain ⟨x1,hx1⟩:∃ q,(lQ r l (k+1)).s1=q:=⟨_,rfl⟩;rw [hx0] at s7 hsc;rw [hx1] at s8 hsc;clear hf2 hv hx0 hx1 hsr hsb h00 hcs HF HST;go_wp2
      go_quiet (fail)
      go_wp2;go_ret2;exact ⟨by rw [HV.out,HE.out,HF2.out];first | rfl | (push_cast;rfl),below_drewN hbw _⟩
  · have hke:k=l.length:=by omega
    have i9:¬ ((k:Int)<(l.length:Int)):=by omega
    have hf2:M.DT (auF r l C) (0+1) (l.length - 0)=0:=HF.out.trans (by rw [hke,Nat.sub_self];rfl);have HF2:=hide hf2;clear hf2 hke hlt;go_wp2;go_ret2;exact ⟨by rw [HV.out,HE.out,HF2.out] <;> rfl,below_drewN hbw _⟩
def ad1 (r:M.Rules) (l:List Sh) (C:List (Int × Int)):Int:=aU [aU [M.aH r,M.je (plain l)],auE l C]
def ad8 (r:M.Rules) (l:List Sh) (C:List (Int × Int)):Int:=if ad1 r l C=0 then M.aa6 r (plain l) C else 0
theorem abf {P:Program} {w:World} {g:Nat} {u:Value} {t ty:TypeId} {d:TypeDesc} (h:Held w g [u] t) (hu:P.underlying ty=some d) (hd:d.isRow=false):(loadVar ty ⟨g,0,none⟩).run P w= .ok u w:=by
 have hc:=h.cell (j:=0) rfl
 have hagg:(isAgg ty).run P w= .ok false w:=by
  unfold isAgg
  rw [Sem.run_bind,run_underlying hu w]
  cases d <;> simp_all [TypeDesc.isRow]
 simp [loadVar,Sem.run_bind,hagg,hc]
theorem acV {W:World} {g h:Nat} {u v:Value} {t1 t2 t3 t4:TypeId} {d1 d2:TypeDesc} {fn:Func} {p q:Tmp} (hg:Held W g [u] t1) (hh:Held W h [v] t2) (hu:Tryz.prog.underlying t3=some d1) (hv:Tryz.prog.underlying t4=some d2) (h1:d1.isRow=false) (h2:d2.isRow=false)
 (hr:fn.results= #[.cell p t3,.cell q t4]) (tmps:Array Value) (hp:tmps.getD p undef=ptr g) (hq:tmps.getD q undef=ptr h):(results fn tmps).run Tryz.prog W= .ok (.tuple #[u,v]) W:=by
 have e:(results fn tmps).run Tryz.prog W=((asAddr (tmps.getD p undef)).run Tryz.prog W).andThen fun a w₁=>((loadVar t3 a).run Tryz.prog w₁).andThen fun v w₂=>((asAddr (tmps.getD q undef)).run Tryz.prog w₂).andThen fun a w₃=>((loadVar t4 a).run Tryz.prog w₃).andThen fun v' w₄=> .ok (.tuple #[v,v']) w₄:=by
  simp only [results,hr]
  simp [Sem.run_bind,Result.andThen]
 rw [e,hp,hq]
 simp only [ptr,asAddr,Sem.run_pure,Result.andThen_ok,abf hg hu h1,abf hh hv h2]
structure AuI (r:M.Rules) (l:List Sh) (C:List (Int × Int)) (A1:Option Addr) (c1:Nat) (w:World) (D:Nat) (X Y:Nat→Prop) (W:World):Prop where
 bw:Below w.heap.size w W
 sz:D≤W.heap.size
 sep:∀ b,X b∨Y b→D≤b
 c5:Held W (w.heap.size+1) [.slice A1 C.length c1] 119
 c6:∃ u,Held W (w.heap.size+2) [u] 3
 c7:∃ u,Held W (w.heap.size+3) [u] 35
structure AuG (r:M.Rules) (l:List Sh) (C:List (Int × Int)) (A1:Option Addr) (c1:Nat) (w:World) (D:Nat) (X Y:Nat→Prop) (xs:List wY) (W:World):Prop where
 i:AuI r l C A1 c1 w D X Y W
 f:M.aa6 r (plain l) C=M.DT (auF r l C) (xs.length+1) (l.length - xs.length)
structure AuX (r:M.Rules) (l:List Sh) (C:List (Int × Int)) (A1:Option Addr) (c1:Nat) (w:World) (D:Nat) (X Y:Nat→Prop) (xs:List wY) (W:World):Prop where
 i:AuI r l C A1 c1 w D X Y W
 d6:Held W (w.heap.size+2) [.int .i64 (M.aa6 r (plain l) C)] 3
 d7:Held W (w.heap.size+3) [.int .i64 0] 35
section
variable {r:M.Rules} {l:List Sh} {C:List (Int × Int)} {A1:Option Addr} {c1:Nat} {w:World} {D:Nat}
theorem AuI.turn {X Y X' Y':Nat→Prop} {W W':World} (h9:w.heap.size+4≤D) (h:AuI r l C A1 c1 w D X Y W) (ht:Turn X W W') (hX:xK W X X') (hY:xK W Y Y'):AuI r l C A1 c1 w D X' Y' W':=by
 have hno:∀ b,b<D→¬ X b:=fun b hb hx=>by have:=h.sep b (.inl hx);omega
 obtain ⟨u6,h6⟩:=h.c6;obtain ⟨u7,h7⟩:=h.c7;refine ⟨kS h.bw ht (fun b hb=>by have:=h.sep b (.inl hb);omega) (by have:=h.sz;omega),Nat.le_trans h.sz ht.size,?_,h.c5.turn ht (hno _ (by omega)),⟨u6,h6.turn ht (hno _ (by omega))⟩,⟨u7,h7.turn ht (hno _ (by omega))⟩⟩
 rintro b (hb | hb)
 · rcases hX b hb with h2 | h2
   · exact h.sep b (.inl h2)
   · exact Nat.le_trans h.sz h2
 · rcases hY b hb with h2 | h2
   · exact h.sep b (.inr h2)
   · exact Nat.le_trans h.sz h2
theorem AuI.putObj {X Y:Nat→Prop} {W:World} {lp:Nat} {o:Obj} (h:AuI r l C A1 c1 w D X Y W) (hD:w.heap.size≤D) (hlp:D≤lp) (hl:W.heap[lp]? =some o) (ho:o.isCells=false) (o':Obj):AuI r l C A1 c1 w D X Y (W.putObj lp o'):=by
 obtain ⟨u6,h6⟩:=h.c6;obtain ⟨u7,h7⟩:=h.c7;exact ⟨jY h.bw (by omega) _,by simpa using h.sz,h.sep,h.c5.putObj hl ho _,⟨u6,h6.putObj hl ho _⟩,⟨u7,h7.putObj hl ho _⟩⟩
theorem AuI.put {X Y:Nat→Prop} {W:World} (h9:w.heap.size+4≤D) (h:AuI r l C A1 c1 w D X Y W) (v6 v7:Value):AuI r l C A1 c1 w D X Y ((W.setCell ⟨w.heap.size+2,0,none⟩ v6).setCell ⟨w.heap.size+3,0,none⟩ v7)∧Held ((W.setCell ⟨w.heap.size+2,0,none⟩ v6).setCell ⟨w.heap.size+3,0,none⟩ v7) (w.heap.size+2) [v6] 3∧Held ((W.setCell ⟨w.heap.size+2,0,none⟩ v6).setCell ⟨w.heap.size+3,0,none⟩ v7) (w.heap.size+3) [v7] 35:=by
 obtain ⟨u6,h6⟩:=h.c6;obtain ⟨u7,h7⟩:=h.c7;have a6:Held (W.setCell ⟨w.heap.size+2,0,none⟩ v6) (w.heap.size+2) [v6] 3:=h6.set 0 v6;have b7:Held (W.setCell ⟨w.heap.size+2,0,none⟩ v6) (w.heap.size+3) [u7] 35:=h7.blk (Below.heap_setCell W _ _ _ (by show ¬ _=_;simp));have d7:=b7.set 0 v7;have d6:Held ((W.setCell ⟨w.heap.size+2,0,none⟩ v6).setCell ⟨w.heap.size+3,0,none⟩ v7) (w.heap.size+2) [v6] 3:=a6.blk (Below.heap_setCell _ _ _ _ (by show ¬ _=_;simp));have d5:Held ((W.setCell ⟨w.heap.size+2,0,none⟩ v6).setCell ⟨w.heap.size+3,0,none⟩ v7) (w.heap.size+1) [.slice A1 C.length c1] 119:=(h.c5.blk (Below.heap_setCell W _ _ _ (by show ¬ _=_;simp))).blk (Below.heap_setCell _ _ _ _ (by show ¬ _=_;simp));have hb:=(h.bw.setCell (p:=⟨w.heap.size+2,0,none⟩) (by show _≤w.heap.size+2;omega) v6).setCell (p:=⟨w.heap.size+3,0,none⟩) (by show _≤w.heap.size+3;omega) v7;have hs:=(((Below.refl 0 W).setCell (p:=⟨w.heap.size+2,0,none⟩) (Nat.zero_le _) v6).setCell (p:=⟨w.heap.size+3,0,none⟩) (Nat.zero_le _) v7).size;exact ⟨⟨hb,Nat.le_trans h.sz hs,h.sep,d5,⟨_,d6⟩,⟨_,d7⟩⟩,d6,d7⟩
theorem al5 {W:World} {v6 v7:Value} {k:Nat} (hk:w.heap.size+4≤k):((W.setCell ⟨w.heap.size+2,0,none⟩ v6).setCell ⟨w.heap.size+3,0,none⟩ v7).heap[k]? =W.heap[k]? :=
 (Below.heap_setCell _ _ _ _ (by show ¬ _=w.heap.size+3;omega)).trans (Below.heap_setCell _ _ _ _ (by show ¬ _=w.heap.size+2;omega))
theorem auA {W:World} {v6 v7:Value}:W.heap.size≤((W.setCell ⟨w.heap.size+2,0,none⟩ v6).setCell ⟨w.heap.size+3,0,none⟩ v7).heap.size:=
 (((Below.refl 0 W).setCell (p:=⟨w.heap.size+2,0,none⟩) (Nat.zero_le _) v6).setCell (p:=⟨w.heap.size+3,0,none⟩) (Nat.zero_le _) v7).size
theorem AuG.abides (h9:w.heap.size+4≤D):tq (AuG r l C A1 c1 w D):=fun X Y pre W X' Y' W' h ht hX hY=>⟨h.i.turn h9 ht hX hY,h.f⟩
theorem AuX.abides (h9:w.heap.size+4≤D):tq (AuX r l C A1 c1 w D):=fun X Y pre W X' Y' W' h ht hX hY=>by
 have hno:∀ b,b<D→¬ X b:=fun b hb hx=>by have:=h.i.sep b (.inl hx);omega
 exact ⟨h.i.turn h9 ht hX hY,h.d6.turn ht (hno _ (by omega)),h.d7.turn ht (hno _ (by omega))⟩
end
theorem anM (S S':Nat→Prop) (r:M.Rules) (l:List Sh) (C:List (Int × Int)) (A A1:Option Addr) (c c1:Nat) (w:World) (hp:wG w S A c l) (hc:RdC w S' A1 c1 C):
 Calls Tryz.prog 60 #[jM r,.slice A l.length c,.slice A1 C.length c1] w fun e w'=>e= .returned (.tuple #[.int .i64 (ad8 r l C),.int .i64 (ad1 r l C)])∧Below w.heap.size w w':=by
 refine callsIn_wide.1 (callsIn_of_wp_marks (F:=Fence.wide) (n:=5) Tryz.func60 rfl trivial ?_ rfl)
 simp only [Tryz.ntmps60,List.size_toArray,List.length_cons,List.length_nil,Nat.reduceAdd,Nat.reduceSub,Array.replicate_succ,
  Array.replicate_zero,List.push_toArray,List.append_toArray,List.nil_append,List.cons_append]
 refine wpIn_wide.2 ?_
 generalize hQ':bodyPostM Fence.wide 5 Tryz.prog _ _=Q'
 obtain ⟨b1,b2,b3⟩:=hp.bd;obtain ⟨d1,d2,d3⟩:=hc.bd;obtain ⟨E1,hE1⟩:∃ E,aU [M.aH r,M.je (plain l)]=E:=⟨_,rfl⟩;obtain ⟨E,hE⟩:∃ E,ad1 r l C=E:=⟨_,rfl⟩;obtain ⟨bn,hbn⟩:∃ b,((C.length:Int) != (l.length:Int))=b:=⟨_,rfl⟩
 have hEv:aU [E1,wh bn 2]=E:=by
  rw [← hE, ← hE1]
  unfold ad1 auE wh
  by_cases h:C.length=l.length
  · have:bn=false:=by rw [← hbn,h];simp
    rw [this,if_pos h];rfl
  · have:bn=true:=by rw [← hbn];simp;omega
    rw [this,if_neg h];rfl
 have hck:=fun W h=>check_any S r l A c W h;have aE4:wP r l=E1:=hE1;rw [hE1] at hck;have hfi:=fun A c w h=>first_any (fun _=>True) A c [E1,wh bn 2] w h
 simp only [hEv] at hfi
 have HFI:=hide hfi;have HQ:=hide hQ';clear hQ' hfi;refine uY ?_
 go_upto_region 1 with (fail)
 refine adr (p:=fun W=>Code.wp _ _ _ _ W) (fun w0 hw0=>?_)
 have hB:bU w w0 [([.string r.game,.int .i64 r.target,.int .i64 r.aY],23),([.slice A1 C.length c1],119),([.int .i64 0],3),([.int .i64 0],35)]:=by rw [hw0];exact (((((bU.nil w).new (by simp) ([.string r.game,.int .i64 r.target,.int .i64 r.aY]) _).new (by simp) ([.slice A1 C.length c1]) _).new (by simp) ([.int .i64 0]) _).new (by simp) ([.int .i64 0]) _)
 clear hw0
 have hsz0:w.heap.size+4≤w0.heap.size:=by simpa using hB.size (by simp)
 have Vh:∀ W',(fun w':World=>Below w0.heap.size w0 w'∧(∀ q,w'.cell? ⟨w.heap.size+1,q,none⟩=w0.cell? ⟨w.heap.size+1,q,none⟩)) W'→W'.rangeAt w.heap.size 0 ([.string r.game,.int .i64 r.target,.int .i64 r.aY]):=fun W' h=>((hB.bf rfl).below h.1).range;have k5:=(hB.get 1 rfl).cell (j:=0) rfl;have Fb:=fun W (h:Below w0.heap.size w0 W)=>hck W ((hp.below hB.bw).below h);have wZ:=hide Fb;have HP:=hide hp;have HC:=hide hc;have HE:=hide (And.intro hE1 (And.intro hE hEv));clear hck Fb hE hEv hE1 hp hc;refine wp_region_held_drew (S:=(fun w':World=>Below w0.heap.size w0 w'∧(∀ q,w'.cell? ⟨w.heap.size+1,q,none⟩=w0.cell? ⟨w.heap.size+1,q,none⟩))) (by kernel_rfl) ?lJ (fun hHeld=>?_)
 case lJ=>exact ⟨(Below.refl _ _).drew,fun q=>rfl⟩
 refine Zf 0 Vh Tryz.underlying23 ?_;refine tk 1 ?_;refine tk 3 ?_;refine tk 4 ?_;refine tk 5 ?_;refine tk 6 ?_;refine tk 7 ?_;refine tr 2 fun K hK=>?_;go_simp
 (go_at_call 63;refine (wZ.out _ hHeld.1).mono ?_;rintro e w1 ⟨rfl,hb1⟩)
 refine Zd hK (⟨hHeld.1.trans (hb1.mono hHeld.1.size),fun q=>(hb1.cell (p:=⟨w.heap.size+1,q,none⟩) (by have:=hHeld.1.size;(try simp at this ⊢);omega)).trans (hHeld.2 q)⟩) fun hHeld=>?_;clear hK K;refine tr 8 fun K hK=>?_;go_simp
 (go_at_call 87;refine (bY _ _ _).mono ?_;rintro e w9 ⟨rfl,rfl⟩)
 refine Zd hK (hHeld) fun hHeld=>?_;clear hK K;refine tr 9 fun K hK=>?_;go_simp;refine Zd hK (⟨Below.alloc hHeld.1 hHeld.1.size _,fun q=>(World.cell?_alloc_lt _ _ ⟨w.heap.size+1,q,none⟩ (by have:=hHeld.1.size;(try simp at this ⊢);omega)).trans (hHeld.2 q)⟩) fun hHeld=>?_;clear hK K;refine tr 10 fun K hK=>?_;go_simp
 (go_at_call 85;refine (HFI.out _ _ _ (bD.lit _ _ _ (by simp) _ trivial)).mono ?_;rintro e w8 ⟨rfl,rfl⟩)
 refine Zd hK (hHeld) fun hHeld=>?_;clear hK K;refine tk 11 ?_;refine wpAnyH_done (by kernel_rfl) ?_ _
 go_upto_region 2 with (fail)
 refine adr (p:=fun W=>Code.wp _ _ _ _ W) (fun wc hwc=>?_)
 have hBc:bU w wc [([.string r.game,.int .i64 r.target,.int .i64 r.aY],23),([.slice A1 C.length c1],119),([.int .i64 0],3),([.int .i64 0],35)]:=by rw [hwc];exact hB.call (by simp) hHeld.1
 clear hwc hHeld Vh k5 hB hsz0
 by_cases h0:E=0
 rotate_left
 · have q0:(E != 0)=true:=by simpa using h0
   have hv:ad8 r l C=0:=if_neg (by rw [HE.out.2.1];exact h0);have HV:=hide hv;clear hv h0;have p6:=(hBc.get 2 rfl).cell (j:=0) rfl;have pf6:=(hBc.get 2 rfl).frozen 0;have p7:=(hBc.get 3 rfl).cell (j:=0) rfl;have pf7:=(hBc.get 3 rfl).frozen 0;go_wp2;have hF:=(hBc.set 2 rfl 0 (.int .i64 0)).set 3 rfl 0 (.int .i64 E)
   show Q' .ret _ _
   rw [← HQ.out];refine vZ (acV (p:=6) (q:=7) (hF.get 2 rfl) (hF.get 3 rfl) Tryz.underlying3 Tryz.underlying35 rfl rfl rfl _ rfl rfl) rfl ⟨?_,hF.bw⟩;rw [HV.out,HE.out.2.1]
 subst h0
 have hparts:wP r l=0∧C.length=l.length:=by
  have h1:=abC HE.out.2.2;refine ⟨HE.out.1.trans h1.1,?_⟩;have h2:=h1.2
  by_cases h:C.length=l.length
  · exact h
  · have:bn=true:=by rw [← hbn];simp;omega
    rw [this] at h2;exact absurd h2 (by decide)
 obtain ⟨Vb,hCl⟩:=hparts;have Fb:=abC (show aU [M.aH r,M.je (plain l)]=0 from Vb);have hv:ad8 r l C=M.aa6 r (plain l) C:=if_pos HE.out.2.1;have HV:=hide hv;have HR:=hide Fb.1;have hls:=((M.Zt _).1 Fb.2).1;rw [eF] at hls;have HL:Hid (∀ e∈l,M.cZ e.x=0):=hide (fun e he=>((M.Zt _).1 Fb.2).2 _ (List.mem_map_of_mem he));have JH:=hide hls;have JF:=hide hCl;have hp:=HP.out;clear hls Fb Vb hv hCl hbn HFI wZ;have k0:=(hBc.bf rfl).cell (j:=0) rfl;have k1:=(hBc.bf rfl).cell (j:=1) rfl;have k2:=(hBc.bf rfl).cell (j:=2) rfl
 have xA:w.heap.size+4≤wc.heap.size:=by simpa using hBc.size (by simp)
 go_wp2_with (go_at_call 65;refine (uJ r _ _ _ _).mono ?_;rintro e w3 ⟨rfl,hC⟩)
 rename_i KQ RI;clear k0 k1 k2
 have hD3:wc.heap.size+2≤w3.heap.size:=by
  have:=hC.size (by simp)
  simpa using this
 have hb3:Below w.heap.size w w3:=hBc.bw.trans (hC.bw.mono (by omega));have Kt:Held w3 wc.heap.size ([.string r.game,.int .i64 r.target,.int .i64 r.aY]) 23:=hC.bf rfl;have Ko:Held w3 (wc.heap.size+1) [.slice A l.length c] 24:=hC.get 1 rfl
 have hK3:∀ b,(b=wc.heap.size∨b=wc.heap.size+1∨(S b∧b<w.heap.size))→b<w3.heap.size:=by rintro b (h | h | ⟨_,h⟩) <;> omega
 have RN:wG w3 (fun b=>b=wc.heap.size∨b=wc.heap.size+1∨(S b∧b<w.heap.size)) A c l:=(hp.more (S':=(fun b=>b=wc.heap.size∨b=wc.heap.size+1∨(S b∧b<w.heap.size))) (fun b hb h=> .inr (.inr ⟨h,hb⟩))).below hb3;have hA5:Held w3 (w.heap.size+1) [.slice A1 C.length c1] 119:=(hBc.get 1 rfl).upto hC.bw (by omega);have hA6:Held w3 (w.heap.size+2) ([.int .i64 0]) 3:=(hBc.get 2 rfl).upto hC.bw (by omega);have hA7:Held w3 (w.heap.size+3) ([.int .i64 0]) 35:=(hBc.get 3 rfl).upto hC.bw (by omega);refine (wpIn_wide (n:=5)).1 ?_
 refine kJ (F:=Fence.wide) rfl (by decide) rfl trivial (fun _ _=>rfl) (sN r l A c (fun b=>b=wc.heap.size∨b=wc.heap.size+1∨(S b∧b<w.heap.size)) _ _ 4 w3 (by decide) HR.out HL.out JH.out hK3 Kt (.inl rfl) Ko (.inr (.inl rfl)) RN) hK3 (Below.refl _ _) (fun _=>rfl) (AuG r l C A1 c1 w w3.heap.size) (AuX r l C A1 c1 w w3.heap.size) (AuG.abides (by omega)) (AuX.abides (by omega))
  (fun X Y pre W lp o o' h hlp hl ho=>⟨h.i.putObj (by omega) hlp hl ho o',h.f⟩) (fun X Y pre W lp o o' h hlp hl ho=>⟨h.i.putObj (by omega) hlp hl ho o',h.d6.putObj hl ho _,h.d7.putObj hl ho _⟩) (fun X Y pre x W lp o o' h hlp hl ho=>h.putObj hl ho o') ?h0 (fun x a W=>∃ Be v0 v1 v2 v3 v4 v8 v11 v12 v13 v14 v15 v16 v17 v18 v19 v20 v21 v22 v23 v24 v25 v26 v27 v28 v29 v30 v31 v32 v33 v34 v35 v36 v37 v38 v39 v40,a= {tmps:= #[v0,v1,v2,v3,v4,ptr (w.heap.size+1),ptr (w.heap.size+2),ptr (w.heap.size+3),v8,.int .i64 (x.i:Int),ptr Be,v11,v12,v13,v14,v15,v16,v17,v18,v19,v20,v21,v22,v23,v24,v25,v26,v27,v28,v29,v30,v31,v32,v33,v34,v35,v36,v37,v38,v39,v40],defers:=[] }∧w3.heap.size≤Be∧Held W Be (bH r x) 133) ?assign ?ap ?body ?done ?stop
 case h0=>
  intro W hW;exact ⟨⟨hb3.trans (hW.mono (by omega)),hW.size,fun b h=>h.elim (fun h=>h.elim) (fun h=>h.elim),hA5.below hW,⟨_,hA6.below hW⟩,⟨_,hA7.below hW⟩⟩,aos r l C⟩
 case ap=>
  rintro x a' W lp o o' ⟨Be,v0,v1,v2,v3,v4,v8,v11,v12,v13,v14,v15,v16,v17,v18,v19,v20,v21,v22,v23,v24,v25,v26,v27,v28,v29,v30,v31,v32,v33,v34,v35,v36,v37,v38,v39,v40,e2,h1,h2⟩ hlp hl ho
  exact ⟨Be,v0,v1,v2,v3,v4,v8,v11,v12,v13,v14,v15,v16,v17,v18,v19,v20,v21,v22,v23,v24,v25,v26,v27,v28,v29,v30,v31,v32,v33,v34,v35,v36,v37,v38,v39,v40,e2,h1,h2.putObj hl ho _⟩
 case assign=>
  intro lp X Y pre x W K' hi ht hk Au;have hb:=((Below.refl W.heap.size W).alloc (Nat.le_refl _) (.cells jk.toArray 133));have hb':=below_setCells W.heap.size (Nat.le_refl _) (bH r x) 0 _ _ hb;have hE0:=Held.new W jk 133;have hsz:=hi.i.sz
  have fin:∀ v0 v1 v2 v3 v4 v8 v11 v12 v13 v14 v15 v16 v17 v18 v19 v20 v21 v22 v23 v24 v25 v26 v27 v28 v29 v30 v31 v32 v33 v34 v35 v36 v37 v38 v39 v40:Value,K' {tmps:= #[v0,v1,v2,v3,v4,ptr (w.heap.size+1),ptr (w.heap.size+2),ptr (w.heap.size+3),v8,.int .i64 (x.i:Int),ptr W.heap.size,v11,v12,v13,v14,v15,v16,v17,v18,v19,v20,v21,v22,v23,v24,v25,v26,v27,v28,v29,v30,v31,v32,v33,v34,v35,v36,v37,v38,v39,v40],defers:=[] } ((W.alloc (.cells jk.toArray 133)).setCells W.heap.size 0 (bH r x)):=fun _ _ _ _ _ _ _ _ _ _ _ _ _ _ _ _ _ _ _ _ _ _ _ _ _ _ _ _ _ _ _ _ _ _ _ _=>
   hk _ _ ⟨hb'.size,fun k o hk hl _=>(hb'.block k (Array.getElem?_eq_some_iff.1 hl).1).trans hl⟩
    ⟨hb'.size,fun b h=>hb'.block b (Au b h),fun b h=>hb'.block b (Nat.lt_of_lt_of_le (hK3 b h) hsz)⟩
    (AuG.abides (by omega) _ _ _ _ _ _ _ hi (Turn.of_below hb') (fun b h=> .inl h) (fun b h=> .inl h))
    ⟨ht.i,ht.lt,ht.e,ht.s,ht.t,ht.rule,ht.a.below hb',ht.b.below hb',ht.xy⟩
    ⟨W.heap.size,_,_,_,_,_,_,_,_,_,_,_,_,_,_,_,_,_,_,_,_,_,_,_,_,_,_,_,_,_,_,_,_,_,_,_,_,rfl,hsz,hE0.whole _ rfl⟩
  have FIN:=hide fin;clear hk fin hb hb' hi ht Au hsz
  simp [zh]
  apply wpIn_seq_k;intro K1 hK1;refine aS (by kernel_rfl) (by rintro ⟨_,_,h⟩;exact h) ?_;go_wp2;refine aS (by kernel_rfl) (by rintro ⟨_,_,h⟩;exact h) ?_
  go_wp2_with (refine aO 133 (.tmp 10) (.tmp 29) rfl ?_;refine aF hE0 (bH r x) rfl mG (tX _ _) rfl (.tmp 10) (.tmp 29) rfl rfl rfl ?_)
  exact FIN.out _ _ _ _ _ _ _ _ _ _ _ _ _ _ _ _ _ _ _ _ _ _ _ _ _ _ _ _ _ _ _ _ _ _ _ _
 case body=>
  rintro lp X Y pre x a' W hi ht ⟨Be,v0,v1,v2,v3,v4,v8,v11,v12,v13,v14,v15,v16,v17,v18,v19,v20,v21,v22,v23,v24,v25,v26,v27,v28,v29,v30,v31,v32,v33,v34,v35,v36,v37,v38,v39,v40,rfl,Ry,hE⟩ hlt Au hWs
  have hst:x.t=lQ r l (pre.length+1):=by
   have hle:l[pre.length]=x.e:=by have:=ht.e;rw [List.getElem?_eq_getElem hlt] at this;exact Option.some.inj this
   rw [vF r l _ hlt,ht.t,ht.s,hle]
  have hkC:pre.length<C.length:=by have:=JF.out;omega
  have hrc:=Reads.below HC.out hi.i.bw;obtain ⟨b,o,rfl,_,hbl,hcs⟩:=Reads.at_ hrc (by omega);have h00:=aax ajJ hcs pre.length hkC
  have hsr:∀ W',(fun w':World=>(∀ q,w'.cell? ⟨w.heap.size+1,q,none⟩=W.cell? ⟨w.heap.size+1,q,none⟩)∧∀ b q,b<W.heap.size→w'.cell? ⟨b,q,none⟩=W.cell? ⟨b,q,none⟩) W'→W'.rangeAt Be 35 [.int .i64 x.t.s0,.int .i64 x.t.s1]:=fun W' hS j v hj=>by
   rw [hS.2 Be _ hE.lt]
   have hj2:(aW x.t x.A' x.c')[7+j]? =some v:=by
    match j,hj with
    | 0,hj=>exact hj
    | 1,hj=>exact hj
   have h1:=hE.cell (Gx r x.i x.e x.s x.t x.A x.A' x.c x.c' x.rule (3+(7+j)) v (Jz r x.t x.A' x.c' (7+j) v hj2));rw [show 35+j=25+(3+(7+j)) by omega];exact h1
  have hcr:∀ W',(fun w':World=>(∀ q,w'.cell? ⟨w.heap.size+1,q,none⟩=W.cell? ⟨w.heap.size+1,q,none⟩)∧∀ b q,b<W.heap.size→w'.cell? ⟨b,q,none⟩=W.cell? ⟨b,q,none⟩) W'→W'.rangeAt b (o+pre.length*2) [.int .i64 C[pre.length].1,.int .i64 C[pre.length].2]:=fun W' hS j v hj=>by
   rw [hS.2 b _ hbl];exact h00 j v hj
  have k5:=hi.i.c5.cell (j:=0) rfl;have hxi:=ht.i
  have i1:(0:Int)≤(pre.length:Int):=by omega
  have i2:(pre.length:Int)<(C.length:Int):=by omega
  have zC:=ZV;have hstep:=M.ZP (auF r l C) hlt;have HI:=hide hi;have HX:=hide Au
  cases hv:auF r l C (pre.length+1) with
  | true=>
    have hsc:=fun w=>aaS hkC hv w;rw [← hst] at hsc
    have hf2:M.aa6 r (plain l) C=M.DT (auF r l C) ((pre++[x]).length+1) (l.length - (pre++[x]).length):=by
     rw [hi.f,hstep,hv,List.length_append,List.length_singleton];rfl
    have hi2:AuI r l C (some ⟨b,o,none⟩) c1 w w3.heap.size X Y W.drew:=hi.i.turn (by omega) ⟨rfl,rfl,rfl,Nat.le_refl _,fun _ _ _=>rfl⟩ (fun b h=> .inl h) (fun b h=> .inl h);have fin:∀ a,rU (fun b=>b=wc.heap.size∨b=wc.heap.size+1∨(S b∧b<w.heap.size)) w3.heap.size X Y (AuG r l C (some ⟨b,o,none⟩) c1 w w3.heap.size) (AuX r l C (some ⟨b,o,none⟩) c1 w w3.heap.size) (pre++[x]) W .normal a W.drew:=fun a=>⟨⟨Nat.le_refl _,fun k o _ hl _=>hl⟩,⟨Nat.le_refl _,fun _ _=>rfl,fun _ _=>rfl⟩,⟨hi2,hf2⟩⟩;have FIN:=hide fin;clear fin hi2 hf2 hv hst h00 hcs hrc hstep ht hi Au;apply wpIn_block;apply wpIn_seq_k;intro K4 hK4;rw [hxi];refine iV (S:=(fun w':World=>(∀ q,w'.cell? ⟨w.heap.size+1,q,none⟩=W.cell? ⟨w.heap.size+1,q,none⟩)∧∀ b q,b<W.heap.size→w'.cell? ⟨b,q,none⟩=W.cell? ⟨b,q,none⟩)) (by kernel_rfl) (by rintro ⟨_,_,h⟩;exact h) (by kernel_rfl) ?rQ (fun hHeld=>?_)
    case rQ=>exact ⟨fun q=>rfl,fun b q _=>rfl⟩
    refine tk 0 ?_;refine tk 1 ?_;refine tk 2 ?_;refine Zf 3 hsr Tryz.underlying31 ?_;refine tk 4 ?_;refine tk 5 ?_;refine tk 6 ?_;refine Zf 7 hcr Tryz.underlying31 ?_;refine tk 8 ?_;refine wpAnyH_done (by kernel_rfl) ?_ _;refine hK4 _ _ ?_;refine wpIn_cond_split rfl (fun h=>by cases h) (fun _=>?_);refine wpIn_skip ?_;exact FIN.out {tmps:= #[],defers:=[] }
  | false=>
    have hsc:=fun w=>aaS hkC hv w;rw [← hst] at hsc
    have hf2:M.aa6 r (plain l) C=((pre.length+1:Nat):Int):=by rw [hi.f,hstep,hv];rfl
    obtain ⟨u6,g6⟩:=hi.i.c6;obtain ⟨u7,g7⟩:=hi.i.c7;have p6:=g6.cell (j:=0) rfl;have pf6:=g6.frozen 0;have p7:=g7.cell (j:=0) rfl;have pf7:=g7.frozen 0;obtain ⟨q1,q2,q3⟩:=hi.i.put (by omega) (.int .i64 ((pre.length:Int)+1)) (.int .i64 0)
    have q2':Held ((W.setCell ⟨w.heap.size+2,0,none⟩ (.int .i64 ((pre.length:Int)+1))).setCell ⟨w.heap.size+3,0,none⟩ (.int .i64 0)) (w.heap.size+2) [.int .i64 (M.aa6 r (plain l) C)] 3:=by
     rw [show M.aa6 r (plain l) C=(pre.length:Int)+1 by rw [hf2];push_cast;rfl];exact q2
    have hi2:=q1.turn (by omega) (W':=((W.setCell ⟨w.heap.size+2,0,none⟩ (.int .i64 ((pre.length:Int)+1))).setCell ⟨w.heap.size+3,0,none⟩ (.int .i64 0)).drew) ⟨rfl,rfl,rfl,Nat.le_refl _,fun _ _ _=>rfl⟩ (fun b h=> .inl h) (fun b h=> .inl h);have fin:∀ a,rU (fun b=>b=wc.heap.size∨b=wc.heap.size+1∨(S b∧b<w.heap.size)) w3.heap.size X Y (AuG r l C (some ⟨b,o,none⟩) c1 w w3.heap.size) (AuX r l C (some ⟨b,o,none⟩) c1 w w3.heap.size) (pre++[x]) W .ret a ((W.setCell ⟨w.heap.size+2,0,none⟩ (.int .i64 ((pre.length:Int)+1))).setCell ⟨w.heap.size+3,0,none⟩ (.int .i64 0)).drew:=fun a=>⟨⟨auA,fun k o hk hl _=>(al5 (by omega)).trans hl⟩,⟨hi2,q2',q3⟩⟩;have FIN:=hide fin;clear fin q1 q2 q2' q3 g6 g7 hi2 hf2 hv hst h00 hcs hrc hstep ht hi Au;apply wpIn_block;apply wpIn_seq_k;intro K4 hK4;rw [hxi];refine iV (S:=(fun w':World=>(∀ q,w'.cell? ⟨w.heap.size+1,q,none⟩=W.cell? ⟨w.heap.size+1,q,none⟩)∧∀ b q,b<W.heap.size→w'.cell? ⟨b,q,none⟩=W.cell? ⟨b,q,none⟩)) (by kernel_rfl) (by rintro ⟨_,_,h⟩;exact h) (by kernel_rfl) ?uQ (fun hHeld=>?_)
    case uQ=>exact ⟨fun q=>rfl,fun b q _=>rfl⟩
    refine tk 0 ?_;refine tk 1 ?_;refine tk 2 ?_;refine Zf 3 hsr Tryz.underlying31 ?_;refine tk 4 ?_;refine tk 5 ?_;refine tk 6 ?_;refine Zf 7 hcr Tryz.underlying31 ?_;refine tk 8 ?_;refine wpAnyH_done (by kernel_rfl) ?_ _;refine hK4 _ _ ?_;refine wpIn_cond_split rfl (fun _=>?_) (fun h=>by cases h);apply wpIn_seq_k;intro K5 hK5;refine aS (by kernel_rfl) (by rintro ⟨_,_,h⟩;exact h) ?_;go_wp2;refine wpIn_ret ?_;exact FIN.out {tmps:= #[],defers:=[] }
 case done=>
  intro D X Y xs W hD hS hi hdef;obtain ⟨u6,g6⟩:=hi.i.c6;obtain ⟨u7,g7⟩:=hi.i.c7;have hbw:=hi.i.bw;have hWs:=hi.i.sz
  have hz:M.aa6 r (plain l) C=0:=by rw [hi.f,hS,Nat.sub_self];rfl
  have p6:=g6.cell (j:=0) rfl;have pf6:=g6.frozen 0;have p7:=g7.cell (j:=0) rfl;have pf7:=g7.frozen 0;obtain ⟨q1,q2,q3⟩:=hi.i.put (by omega) (.int .i64 0) (.int .i64 0);have hd:=(al5 (W:=W) (w:=w) (v6:= .int .i64 0) (v7:= .int .i64 0) (k:=D) (by omega)).trans hdef
  have fin:∀ (a:Act),a.defers=[{target:= .collected D,args:= #[] }]→a.tmps.getD 6 undef=ptr (w.heap.size+2)→a.tmps.getD 7 undef=ptr (w.heap.size+3)→NT Q' .ret a ((W.setCell ⟨w.heap.size+2,0,none⟩ (.int .i64 0)).setCell ⟨w.heap.size+3,0,none⟩ (.int .i64 0)):=by
   intro a e1 e6 e7
   show Q' .ret _ _
   rw [← HQ.out];refine uf e1 hd (acV (p:=6) (q:=7) (q2.putObj hd rfl _) (q3.putObj hd rfl _) Tryz.underlying3 Tryz.underlying35 rfl rfl rfl _ e6 e7) ⟨?_,jY q1.bw (by omega) _⟩;rw [HV.out,hz,HE.out.2.1]
  have FIN:=hide fin;clear fin q1 q2 q3 hd g6 g7 hi hdef hS hz;refine RI _ _ ?_
  dsimp only
  go_wp2;exact FIN.out _ rfl rfl rfl
 case stop=>
  intro D X Y pre W hD hSp hx hdef;refine wpIn_ret ?_
  show Q' .ret _ _
  rw [← HQ.out];refine uf rfl hdef (acV (p:=6) (q:=7) (hx.d6.putObj hdef rfl _) (hx.d7.putObj hdef rfl _) Tryz.underlying3 Tryz.underlying35 rfl rfl rfl _ rfl rfl) ⟨?_,jY hx.i.bw (by omega) _⟩;rw [HV.out,HE.out.2.1]
structure AdA (W0:World) (r:M.Rules) (a b:List Sh) (Aa Ab:Option Addr) (ca cb:Nat) (C:List (Int × Int)) (Ac:Option Addr) (cc:Nat) (v2 v3 v4:Value) (W:World):Prop where
 e2:v2= .slice Ac C.length cc
 e3:v3=ptr W0.heap.size
 e4:v4=ptr (W0.heap.size+1)
 h3:Held W W0.heap.size ([.string r.game,.int .i64 r.target,.int .i64 r.aY]) 23
 h4:Held W (W0.heap.size+1) ([.slice Aa a.length ca,.slice Ab b.length cb]) 118
 ra:wG W (fun _=>True) Aa ca a
 rb:wG W (fun _=>True) Ab cb b
 rc:RdC W (fun _=>True) Ac cc C
 pa:∀ e∈a,e.x.aA.length*16≤140737488355328
 la:a.length*80≤140737488355328
 pb:∀ e∈b,e.x.aA.length*16≤140737488355328
 lb:b.length*80≤140737488355328
 bw:Below W0.heap.size W0 W
theorem AdA.below {W0 W W':World} {r:M.Rules} {a b:List Sh} {Aa Ab:Option Addr} {ca cb:Nat} {C:List (Int × Int)} {Ac:Option Addr} {cc:Nat} {v2 v3 v4:Value} (h:AdA W0 r a b Aa Ab ca cb C Ac cc v2 v3 v4 W) (hb:Below W.heap.size W W'):AdA W0 r a b Aa Ab ca cb C Ac cc v2 v3 v4 W':=
 ⟨h.e2,h.e3,h.e4,h.h3.below hb,h.h4.below hb,h.ra.below hb,h.rb.below hb,Reads.below h.rc hb,h.pa,h.la,h.pb,h.lb,VY h.bw hb⟩
def AdB (W0:World) (r:M.Rules) (a b:List Sh) (Aa Ab:Option Addr) (ca cb:Nat) (C:List (Int × Int)) (Ac:Option Addr) (cc:Nat) (v2 v3 v4 v7 v8 v9:Value) (W:World):Prop:=
 AdA W0 r a b Aa Ab ca cb C Ac cc v2 v3 v4 W∧∃ B7 A8 c8 a' A9 c9 b',v7=ptr B7∧Held W B7 ([.string r.game,.int .i64 r.target,.int .i64 r.aY]) 25∧v8= .slice A8 a'.length c8∧plain a'=plain a∧wG W (fun _=>True) A8 c8 a'∧v9= .slice A9 b'.length c9∧plain b'=plain b∧wG W (fun _=>True) A9 c9 b'
theorem AdB.below {W0 W W':World} {r:M.Rules} {a b:List Sh} {Aa Ab:Option Addr} {ca cb:Nat} {C:List (Int × Int)} {Ac:Option Addr} {cc:Nat} {v2 v3 v4 v7 v8 v9:Value} (h:AdB W0 r a b Aa Ab ca cb C Ac cc v2 v3 v4 v7 v8 v9 W) (hb:Below W.heap.size W W'):AdB W0 r a b Aa Ab ca cb C Ac cc v2 v3 v4 v7 v8 v9 W':=by
 obtain ⟨h1,B7,A8,c8,a',A9,c9,b',e7,h7,e8,hp,h8,e9,hq,h9⟩:=h;exact ⟨h1.below hb,B7,A8,c8,a',A9,c9,b',e7,h7.below hb,e8,hp,h8.below hb,e9,hq,h9.below hb⟩
theorem aic {r:M.Rules} {l:List Sh} {C:List (Int × Int)}:ad1 r l C=if wP r l=0 then auE l C else wP r l:=by
 show aU [wP r l,auE l C]=_
 unfold aU aU aU
 by_cases h:wP r l=0
 · by_cases h2:auE l C=0 <;> simp [h,h2]
 · simp [h]
theorem aus {r:M.Rules} {l:List Sh} {C:List (Int × Int)} (h:wP r l=0):ad8 r l C=auV r l C:=by
 unfold ad8 auV
 rw [aic,if_pos h]
 unfold auE
 by_cases h2:C.length=l.length <;> simp [h2]
noncomputable def Z9 (n:Nat):Code:=dQ n ((Tryz.f14).body.getD .skip)
@[reducible] def ADQ (W0:World) (r:M.Rules) (a b:List Sh) (Aa Ab:Option Addr) (ca cb:Nat) (C:List (Int × Int)) (Ac:Option Addr) (cc:Nat) (F:Value→Value→Value→Value→Value→Value→Value→Value→Value→Value→Value→Value→Value→Value→World→Prop) (n:Nat):Prop:=∀ (z0 z1 z2 z3 z4 z5 z6 z7 z8 z9 z10 z11 z12 z13 kD kK kF z17 kL jQ z20 z21 z22 z23 z24 z25 z26 z27 z28 z29 z30 z31 z32 z33 z34 z35 z36 z37 z38 z39 z40 z41 z42 z43 z44 z45 z46 z47 z48 z49 z50 z51 z52 z53 z54 z55 z56 z57 z58 z59 z60 z61 z62 z63 z64 z65 z66 z67 z68 z69 z70 z71 z72 z73 z74 z75 z76 z77 z78 z79 z80 mM z82 z83 z84 z85 z86 z87 mO z89 mP z91 mQ z93 mV mW mX mY mZ ng eU eX eY fA fB z105:Value) (W:World),F z2 z3 z4 z7 z8 z9 z10 z11 z12 z13 kD kK kF z17 W→(Z9 n).wp Tryz.prog (bodyPost Tryz.prog Tryz.f14 (fun e w'=>e= .returned (.bool true)∧Below W0.heap.size W0 w')) {tmps:= #[z0,z1,z2,z3,z4,z5,z6,z7,z8,z9,z10,z11,z12,z13,kD,kK,kF,z17,kL,jQ,z20,z21,z22,z23,z24,z25,z26,z27,z28,z29,z30,z31,z32,z33,z34,z35,z36,z37,z38,z39,z40,z41,z42,z43,z44,z45,z46,z47,z48,z49,z50,z51,z52,z53,z54,z55,z56,z57,z58,z59,z60,z61,z62,z63,z64,z65,z66,z67,z68,z69,z70,z71,z72,z73,z74,z75,z76,z77,z78,z79,z80,mM,z82,z83,z84,z85,z86,z87,mO,z89,mP,z91,mQ,z93,mV,mW,mX,mY,mZ,ng,eU,eX,eY,fA,fB,z105],defers:=[] } W
@[reducible] def azi (W0:World) (r:M.Rules) (a b:List Sh) (Aa Ab:Option Addr) (ca cb:Nat) (C:List (Int × Int)) (Ac:Option Addr) (cc:Nat):Prop:=ADQ W0 r a b Aa Ab ca cb C Ac cc (fun z2 z3 z4 _ _ _ _ _ _ _ _ _ _ _ W=>AdA W0 r a b Aa Ab ca cb C Ac cc z2 z3 z4 W) 1
@[reducible] def axl (W0:World) (r:M.Rules) (a b:List Sh) (Aa Ab:Option Addr) (ca cb:Nat) (C:List (Int × Int)) (Ac:Option Addr) (cc:Nat):Prop:=ADQ W0 r a b Aa Ab ca cb C Ac cc (fun z2 z3 z4 z7 z8 z9 _ _ _ _ _ _ _ _ W=>AdB W0 r a b Aa Ab ca cb C Ac cc z2 z3 z4 z7 z8 z9 W) 2
@[reducible] def axu (W0:World) (r:M.Rules) (a b:List Sh) (Aa Ab:Option Addr) (ca cb:Nat) (C:List (Int × Int)) (Ac:Option Addr) (cc:Nat):Prop:=ADQ W0 r a b Aa Ab ca cb C Ac cc (fun z2 z3 z4 z7 z8 z9 _ _ _ _ _ _ _ _ W=>AdB W0 r a b Aa Ab ca cb C Ac cc z2 z3 z4 z7 z8 z9 W) 3
@[reducible] def axB (W0:World) (r:M.Rules) (a b:List Sh) (Aa Ab:Option Addr) (ca cb:Nat) (C:List (Int × Int)) (Ac:Option Addr) (cc:Nat):Prop:=ADQ W0 r a b Aa Ab ca cb C Ac cc (fun z2 z3 z4 z7 z8 z9 z10 z11 _ _ _ _ _ _ W=>AdB W0 r a b Aa Ab ca cb C Ac cc z2 z3 z4 z7 z8 z9 W∧z10= .int .i64 (aef r (plain a) (plain b))∧z11= .int .i64 (abv r (plain a) (plain b))) 4
@[reducible] def axI (W0:World) (r:M.Rules) (a b:List Sh) (Aa Ab:Option Addr) (ca cb:Nat) (C:List (Int × Int)) (Ac:Option Addr) (cc:Nat):Prop:=ADQ W0 r a b Aa Ab ca cb C Ac cc (fun z2 z3 z4 z7 z8 z9 z10 z11 z12 z13 _ _ _ _ W=>AdB W0 r a b Aa Ab ca cb C Ac cc z2 z3 z4 z7 z8 z9 W∧(z10= .int .i64 (aef r (plain a) (plain b))∧z11= .int .i64 (abv r (plain a) (plain b)))∧z12= .int .i64 (ad8 r a C)∧z13= .int .i64 (ad1 r a C)) 5
@[reducible] def axP (W0:World) (r:M.Rules) (a b:List Sh) (Aa Ab:Option Addr) (ca cb:Nat) (C:List (Int × Int)) (Ac:Option Addr) (cc:Nat):Prop:=ADQ W0 r a b Aa Ab ca cb C Ac cc (fun z2 z3 z4 z7 z8 z9 z10 z11 z12 z13 kD _ _ _ W=>AdB W0 r a b Aa Ab ca cb C Ac cc z2 z3 z4 z7 z8 z9 W∧(z10= .int .i64 (aef r (plain a) (plain b))∧z11= .int .i64 (abv r (plain a) (plain b)))∧(z12= .int .i64 (ad8 r a C)∧z13= .int .i64 (ad1 r a C))∧kD= .int .i64 (wP r a)) 6
@[reducible] def axW (W0:World) (r:M.Rules) (a b:List Sh) (Aa Ab:Option Addr) (ca cb:Nat) (C:List (Int × Int)) (Ac:Option Addr) (cc:Nat):Prop:=ADQ W0 r a b Aa Ab ca cb C Ac cc (fun z2 z3 z4 z7 z8 z9 z10 z11 z12 z13 kD kK _ _ W=>AdB W0 r a b Aa Ab ca cb C Ac cc z2 z3 z4 z7 z8 z9 W∧(z10= .int .i64 (aef r (plain a) (plain b))∧z11= .int .i64 (abv r (plain a) (plain b)))∧(z12= .int .i64 (ad8 r a C)∧z13= .int .i64 (ad1 r a C))∧kD= .int .i64 (wP r a)∧kK= .int .i64 (abv r (plain a) (plain b))) 7
@[reducible] def aq6 (W0:World) (r:M.Rules) (a b:List Sh) (Aa Ab:Option Addr) (ca cb:Nat) (C:List (Int × Int)) (Ac:Option Addr) (cc:Nat):Prop:=ADQ W0 r a b Aa Ab ca cb C Ac cc (fun z2 z3 z4 z7 z8 z9 z10 z11 z12 z13 kD kK kF z17 W=>AdB W0 r a b Aa Ab ca cb C Ac cc z2 z3 z4 z7 z8 z9 W∧(z10= .int .i64 (aef r (plain a) (plain b))∧z11= .int .i64 (abv r (plain a) (plain b)))∧(z12= .int .i64 (ad8 r a C)∧z13= .int .i64 (ad1 r a C))∧kD= .int .i64 (wP r a)∧kK= .int .i64 (abv r (plain a) (plain b))∧kF= .int .i64 (aef r (plain a) (plain b))∧z17= .int .i64 0) 9
@[reducible] def arf (W0:World) (r:M.Rules) (a b:List Sh) (Aa Ab:Option Addr) (ca cb:Nat) (C:List (Int × Int)) (Ac:Option Addr) (cc:Nat):Prop:=ADQ W0 r a b Aa Ab ca cb C Ac cc (fun _ _ _ _ _ _ z10 z11 z12 z13 kD kK kF z17 W=>Below W0.heap.size W0 W∧(z10= .int .i64 (aef r (plain a) (plain b))∧z11= .int .i64 (abv r (plain a) (plain b)))∧(z12= .int .i64 (ad8 r a C)∧z13= .int .i64 (ad1 r a C))∧kD= .int .i64 (ad1 r a C)∧kK= .int .i64 (abv r (plain a) (plain b))∧kF= .int .i64 (aef r (plain a) (plain b))∧z17= .int .i64 (ad8 r a C)) 10
theorem aDg (W0:World) (r:M.Rules) (a b:List Sh) (Aa Ab:Option Addr) (ca cb:Nat) (C:List (Int × Int)) (Ac:Option Addr) (cc:Nat) (HG:Hid (Glob W0)) (HN:Hid (axl W0 r a b Aa Ab ca cb C Ac cc)):azi W0 r a b Aa Ab ca cb C Ac cc:=by
 dsimp only [azi,ADQ]
 intro z0 z1 _ _ _ z5 z6 _ z8 z9 z10 z11 z12 z13 kD kK kF z17 _ _ _ _ _ _ _ z25 z26 z27 z28 z29 z30 z31 z32 z33 z34 z35 z36 z37 z38 z39 z40 z41 z42 z43 z44 z45 z46 z47 z48 z49 z50 z51 z52 z53 z54 z55 z56 z57 z58 z59 z60 z61 z62 z63 z64 z65 z66 z67 z68 z69 z70 z71 z72 z73 z74 z75 z76 z77 z78 z79 z80 mM z82 z83 z84 z85 z86 z87 mO z89 mP z91 mQ z93 mV mW mX mY mZ ng eU eX eY fA fB z105 W hf
 dsimp only [Z9,dQ,Tryz.f14,Option.getD]
 have hF:=hf;obtain ⟨rfl,rfl,rfl,h3,h4,_,_,_,_,_,_,_,_⟩:=hf;have hr3:∀ W',(fun w':World=>Below W.heap.size W w'∧(∀ q,w'.cell? ⟨W0.heap.size+1,q,none⟩=W.cell? ⟨W0.heap.size+1,q,none⟩)) W'→W'.rangeAt W0.heap.size 0 ([.string r.game,.int .i64 r.target,.int .i64 r.aY]):=fun W' h=>(h3.below h.1).range;have k0:=h4.cell (j:=0) rfl;have k1:=h4.cell (j:=1) rfl;have alv:=h4.lt;apply wp_seq_k;intro K hK;have HK:=hide hK;clear hK;refine wp_region_held_drew (S:=(fun w':World=>Below W.heap.size W w'∧(∀ q,w'.cell? ⟨W0.heap.size+1,q,none⟩=W.cell? ⟨W0.heap.size+1,q,none⟩))) (by kernel_rfl) ?eP (fun hHeld=>?_)
 case eP=>exact ⟨(Below.refl _ _).drew,fun q=>rfl⟩
 refine ajh (fun f hf=>?_)
 have J:∀ (p7:Nat) (A6 A8:Option Addr) (c6 c8:Nat) (a_ b_:List Sh) (wx:World),Held wx p7 [.string ⟨#[]⟩,.int .i64 0,.int .i64 0] 25→W.heap.size≤p7→(fun w':World=>Below W.heap.size W w'∧(∀ q,w'.cell? ⟨W0.heap.size+1,q,none⟩=W.cell? ⟨W0.heap.size+1,q,none⟩)) wx→plain a_=plain a→plain b_=plain b→
  wG wx (fun b=>b≠p7) A6 c6 a_→wG wx (fun b=>b≠p7) A8 c8 b_→f 3 #[true,true,true,true,true,true,true,true,false,false,false] {tmps:= #[z0,z1,.slice Ac C.length cc,ptr W0.heap.size,ptr (W0.heap.size+1),z5,z6,ptr p7,z8,z9,z10,z11,z12,z13,kD,kK,kF,z17,.agg ([.string r.game,.int .i64 r.target,.int .i64 r.aY]:List Value).toArray,.pointer (some ⟨W0.heap.size+1,0,none⟩),.slice Aa a.length ca,.slice A6 a_.length c6,.pointer (some ⟨W0.heap.size+1,1,none⟩),.slice Ab b.length cb,.slice A8 b_.length c8,z25,z26,z27,z28,z29,z30,z31,z32,z33,z34,z35,z36,z37,z38,z39,z40,z41,z42,z43,z44,z45,z46,z47,z48,z49,z50,z51,z52,z53,z54,z55,z56,z57,z58,z59,z60,z61,z62,z63,z64,z65,z66,z67,z68,z69,z70,z71,z72,z73,z74,z75,z76,z77,z78,z79,z80,mM,z82,z83,z84,z85,z86,z87,mO,z89,mP,z91,mQ,z93,mV,mW,mX,mY,mZ,ng,eU,eX,eY,fA,fB,z105],defers:=[] } wx:=by
  intro p7 A6 A8 c6 c8 a_ b_ wx g7 l7 hHeld Fv hp8 kP Wu;subst hf;have hHeld:(fun w':World=>Below W.heap.size W w'∧(∀ q,w'.cell? ⟨W0.heap.size+1,q,none⟩=W.cell? ⟨W0.heap.size+1,q,none⟩)) (wx.setCells p7 0 ([.string r.game,.int .i64 r.target,.int .i64 r.aY])):=⟨below_setCells _ l7 _ _ _ _ hHeld.1,fun q=>(kN _ _ _ _ (by omega)).trans (hHeld.2 q)⟩;refine wpAnyH_ready (rs:=[8]) (by kernel_rfl) (by simp) ?_;refine aaE (o:=_) (ga rfl) (by kernel_rfl) g7 ([.string r.game,.int .i64 r.target,.int .i64 r.aY]) rfl Zm (xI _ _ _) (.tmp 7) (.tmp 18) rfl rfl rfl hHeld ?_
  try simp only [Act.put,la,lz,ls]
  refine tk 9 ?_;refine tk 10 ?_;refine wpAnyH_done (by kernel_rfl) ?_ _;refine HK.out _ _ ?_;apply HN.out;refine ⟨hF.below hHeld.1,p7,A6,c6,a_,A8,c8,b_,rfl,g7.whole _ rfl,rfl,Fv,?_,rfl,hp8,?_⟩
  · exact (wG.aw7 kP (Below.refl _ _) (fun b _ h=>h)).more (fun _ _ _=>trivial)
  · exact (wG.aw7 Wu (Below.refl _ _) (fun b _ h=>h)).more (fun _ _ _=>trivial)
 rw [hf] at J;subst hf;refine Zf 0 hr3 Tryz.underlying23 ?_;refine tk 1 ?_;refine tk 2 ?_;refine tk 4 ?_;refine tk 5 ?_;refine ZX 3 7 (fun K hK=>?_) fun K hK=>?_
 · go_simp
   (go_at_call 15;refine (ZL (fun _=>True) a Aa ca _ (hF.ra.below hHeld.1) hF.la hF.pa).mono ?_;rintro e w6 ⟨a_,A6,c6,Fv,rfl,kP,hb6⟩)
   refine Zd hK (⟨hHeld.1.trans (hb6.mono hHeld.1.size),fun q=>(hb6.cell (p:=⟨W0.heap.size+1,q,none⟩) (Nat.lt_of_lt_of_le alv hHeld.1.size)).trans (hHeld.2 q)⟩) fun hHeld=>?_;clear hK K;refine ZX 6 7 (fun K hK=>?_) fun K hK=>?_
   · go_simp
     (go_at_call 15;refine (ZL (fun _=>True) b Ab cb _ (hF.rb.below hHeld.1) hF.lb hF.pb).mono ?_;rintro e w8 ⟨b_,A8,c8,hp8,rfl,Wu,hb8⟩)
     refine Zd hK (⟨hHeld.1.trans (hb8.mono hHeld.1.size),fun q=>(hb8.cell (p:=⟨W0.heap.size+1,q,none⟩) (Nat.lt_of_lt_of_le alv hHeld.1.size)).trans (hHeld.2 q)⟩) fun hHeld=>?_;clear hK K;refine tr 7 fun K hK=>?_;go_simp;refine Zd hK (⟨Below.alloc hHeld.1 hHeld.1.size _,fun q=>(World.cell?_alloc_lt _ _ ⟨W0.heap.size+1,q,none⟩ (Nat.lt_of_lt_of_le alv hHeld.1.size)).trans (hHeld.2 q)⟩) fun hHeld=>?_;clear hK K;have hq6:=hb6.size;have hq8:=hb8.size
     (try simp at hq6 hq8)
     exact J _ A6 A8 c6 c8 a_ b_ _ (Held.newAt _ [.string ⟨#[]⟩,.int .i64 0,.int .i64 0] 25 (by first | rfl | simp)) (by (try simp);(try omega)) hHeld Fv hp8 (wG.below (wG.below (wG.more kP (fun b hl h=>by (try simp at h hl);(intro e;(try simp at e);omega))) hb8) ((Below.refl _ _).alloc (Nat.le_refl _) _)) (wG.below (wG.more Wu (fun b hl h=>by (try simp at h hl);(intro e;(try simp at e);omega))) ((Below.refl _ _).alloc (Nat.le_refl _) _))
   · go_simp
     refine Zd hK (⟨Below.alloc hHeld.1 hHeld.1.size _,fun q=>(World.cell?_alloc_lt _ _ ⟨W0.heap.size+1,q,none⟩ (Nat.lt_of_lt_of_le alv hHeld.1.size)).trans (hHeld.2 q)⟩) fun hHeld=>?_;clear hK K;refine tr 6 fun K hK=>?_;go_simp
     (go_at_call 15;refine (ZL (fun _=>True) b Ab cb _ (hF.rb.below hHeld.1) hF.lb hF.pb).mono ?_;rintro e w8 ⟨b_,A8,c8,hp8,rfl,Wu,hb8⟩)
     refine Zd hK (⟨hHeld.1.trans (hb8.mono hHeld.1.size),fun q=>(hb8.cell (p:=⟨W0.heap.size+1,q,none⟩) (Nat.lt_of_lt_of_le alv hHeld.1.size)).trans (hHeld.2 q)⟩) fun hHeld=>?_;clear hK K;have hq6:=hb6.size;have hq8:=hb8.size
     (try simp at hq6 hq8)
     exact J _ A6 A8 c6 c8 a_ b_ _ (Held.below (Held.newAt _ [.string ⟨#[]⟩,.int .i64 0,.int .i64 0] 25 (by first | rfl | simp)) hb8) (by (try simp);(try omega)) hHeld Fv hp8 (wG.below (wG.below (wG.more kP (fun b hl h=>by (try simp at h hl);(intro e;(try simp at e);omega))) ((Below.refl _ _).alloc (Nat.le_refl _) _)) hb8) (wG.more Wu (fun b hl h=>by (try simp at h hl);(intro e;(try simp at e);omega)))
 · go_simp
   refine Zd hK (⟨Below.alloc hHeld.1 hHeld.1.size _,fun q=>(World.cell?_alloc_lt _ _ ⟨W0.heap.size+1,q,none⟩ (Nat.lt_of_lt_of_le alv hHeld.1.size)).trans (hHeld.2 q)⟩) fun hHeld=>?_;clear hK K;refine tr 3 fun K hK=>?_;go_simp
   (go_at_call 15;refine (ZL (fun _=>True) a Aa ca _ (hF.ra.below hHeld.1) hF.la hF.pa).mono ?_;rintro e w6 ⟨a_,A6,c6,Fv,rfl,kP,hb6⟩)
   refine Zd hK (⟨hHeld.1.trans (hb6.mono hHeld.1.size),fun q=>(hb6.cell (p:=⟨W0.heap.size+1,q,none⟩) (Nat.lt_of_lt_of_le alv hHeld.1.size)).trans (hHeld.2 q)⟩) fun hHeld=>?_;clear hK K;refine tr 6 fun K hK=>?_;go_simp
   (go_at_call 15;refine (ZL (fun _=>True) b Ab cb _ (hF.rb.below hHeld.1) hF.lb hF.pb).mono ?_;rintro e w8 ⟨b_,A8,c8,hp8,rfl,Wu,hb8⟩)
   refine Zd hK (⟨hHeld.1.trans (hb8.mono hHeld.1.size),fun q=>(hb8.cell (p:=⟨W0.heap.size+1,q,none⟩) (Nat.lt_of_lt_of_le alv hHeld.1.size)).trans (hHeld.2 q)⟩) fun hHeld=>?_;clear hK K;have hq6:=hb6.size;have hq8:=hb8.size
   (try simp at hq6 hq8)
   exact J _ A6 A8 c6 c8 a_ b_ _ (Held.below (Held.below (Held.drew (Held.newAt _ [.string ⟨#[]⟩,.int .i64 0,.int .i64 0] 25 (by first | rfl | simp))) hb6) hb8) (by (try simp);(try omega)) hHeld Fv hp8 (wG.below (wG.more kP (fun b hl h=>by (try simp at h hl);(intro e;(try simp at e);omega))) hb8) (wG.more Wu (fun b hl h=>by (try simp at h hl);(intro e;(try simp at e);omega)))
theorem aDn (W0:World) (r:M.Rules) (a b:List Sh) (Aa Ab:Option Addr) (ca cb:Nat) (C:List (Int × Int)) (Ac:Option Addr) (cc:Nat) (HG:Hid (Glob W0)) (HN:Hid (axu W0 r a b Aa Ab ca cb C Ac cc)):axl W0 r a b Aa Ab ca cb C Ac cc:=by
 dsimp only [axl,ADQ]
 intros
 rename_i W hf
 dsimp only [Z9,dQ,Tryz.f14,Option.getD]
 have hE:=hf;obtain ⟨hA,B7,A8,c8,a',A9,c9,b',rfl,h7,rfl,hpa,h8,rfl,hpb,h9⟩:=id hE;have hA':=hA;obtain ⟨rfl,rfl,rfl,h3,h4,ra,rb,rc,pa,la,pb,lb,hbw⟩:=hA';have k0:=h3.cell (j:=0) rfl;have HG9:=hide (HG.out.below hbw);have tok1:True:=trivial;apply wp_seq_k;intro K hK;have HK:=hide hK;clear hK;apply wp_seq_k;intro K2 hK2;have PD:=hide hK2;clear hK2
 by_cases hg:60<r.game.size
 · have hg':(60:Int)<(r.game.size:Int):=by omega
   go_wp2_with (first | (go_at_call 16;have _t:=tok1;clear tok1;refine (Zn _ a' A8 c8 24 _ h8).mono ?_;rw [hpa,hd2];rintro e w2 ⟨rfl,hb2⟩;have HG9:=hide (HG9.out.below hb2);have h9':=h9.below hb2;dsimp only) | (go_at_call 16;refine (Zn _ b' A9 c9 24 _ h9').mono ?_;rw [hpb,hd3];rintro e w3 ⟨rfl,hb3⟩;have HG9:=hide (HG9.out.below hb3);dsimp only))
   refine PD.out _ _ ?_
   go_wp2_with (first | (go_at_call 17;refine (QJ _ HG9.out).mono ?_;rintro e w9 ⟨rfl,U6⟩;dsimp only))
   go_ret;exact ⟨rfl,VY hbw U6⟩
 · have hg':¬ (60:Int)<(r.game.size:Int):=by omega
   obtain ⟨sb,hd2⟩:∃ q,aaZ (plain a) 24=q:=⟨_,rfl⟩
   cases sb with
   | true=>
     obtain ⟨sx,hd3⟩:∃ q,aaZ (plain b) 24=q:=⟨_,rfl⟩
     cases sx with
     | true=>
       by_cases h30:30<C.length
       · have aEa:(30:Int)<(C.length:Int):=by omega
         go_wp2_with (first | (go_at_call 16;have _t:=tok1;clear tok1;refine (Zn _ a' A8 c8 24 _ h8).mono ?_;rw [hpa,hd2];rintro e w2 ⟨rfl,hb2⟩;have HG9:=hide (HG9.out.below hb2);have h9':=h9.below hb2;dsimp only) | (go_at_call 16;refine (Zn _ b' A9 c9 24 _ h9').mono ?_;rw [hpb,hd3];rintro e w3 ⟨rfl,hb3⟩;have HG9:=hide (HG9.out.below hb3);dsimp only))
         refine PD.out _ _ ?_
         go_wp2_with (first | (go_at_call 17;refine (QJ _ HG9.out).mono ?_;rintro e w9 ⟨rfl,U6⟩;dsimp only))
         go_ret;exact ⟨rfl,VY (VY (VY hbw hb2) hb3) U6⟩
       · have aEa:¬ (30:Int)<(C.length:Int):=by omega
         go_wp2_with (first | (go_at_call 16;have _t:=tok1;clear tok1;refine (Zn _ a' A8 c8 24 _ h8).mono ?_;rw [hpa,hd2];rintro e w2 ⟨rfl,hb2⟩;have HG9:=hide (HG9.out.below hb2);have h9':=h9.below hb2;dsimp only) | (go_at_call 16;refine (Zn _ b' A9 c9 24 _ h9').mono ?_;rw [hpb,hd3];rintro e w3 ⟨rfl,hb3⟩;have HG9:=hide (HG9.out.below hb3);dsimp only))
         refine PD.out _ _ ?_;go_wp2;refine HK.out _ _ ?_;apply HN.out;exact (hE.below hb2).below hb3
     | false=>
       go_wp2_with (first | (go_at_call 16;have _t:=tok1;clear tok1;refine (Zn _ a' A8 c8 24 _ h8).mono ?_;rw [hpa,hd2];rintro e w2 ⟨rfl,hb2⟩;have HG9:=hide (HG9.out.below hb2);have h9':=h9.below hb2;dsimp only) | (go_at_call 16;refine (Zn _ b' A9 c9 24 _ h9').mono ?_;rw [hpb,hd3];rintro e w3 ⟨rfl,hb3⟩;have HG9:=hide (HG9.out.below hb3);dsimp only))
       refine PD.out _ _ ?_
       go_wp2_with (first | (go_at_call 17;refine (QJ _ HG9.out).mono ?_;rintro e w9 ⟨rfl,U6⟩;dsimp only))
       go_ret;exact ⟨rfl,VY (VY (VY hbw hb2) hb3) U6⟩
   | false=>
     go_wp2_with (first | (go_at_call 16;have _t:=tok1;clear tok1;refine (Zn _ a' A8 c8 24 _ h8).mono ?_;rw [hpa,hd2];rintro e w2 ⟨rfl,hb2⟩;have HG9:=hide (HG9.out.below hb2);have h9':=h9.below hb2;dsimp only) | (go_at_call 16;refine (Zn _ b' A9 c9 24 _ h9').mono ?_;rw [hpb,hd3];rintro e w3 ⟨rfl,hb3⟩;have HG9:=hide (HG9.out.below hb3);dsimp only))
     refine PD.out _ _ ?_
     go_wp2_with (first | (go_at_call 17;refine (QJ _ HG9.out).mono ?_;rintro e w9 ⟨rfl,U6⟩;dsimp only))
     go_ret;exact ⟨rfl,VY (VY hbw hb2) U6⟩
theorem aDu (W0:World) (r:M.Rules) (a b:List Sh) (Aa Ab:Option Addr) (ca cb:Nat) (C:List (Int × Int)) (Ac:Option Addr) (cc:Nat) (HG:Hid (Glob W0)) (HN:Hid (axB W0 r a b Aa Ab ca cb C Ac cc)):axu W0 r a b Aa Ab ca cb C Ac cc:=by
 dsimp only [axu,ADQ]
 intros
 rename_i W hf
 dsimp only [Z9,dQ,Tryz.f14,Option.getD]
 have hE:=hf;obtain ⟨hA,B7,A8,c8,a',A9,c9,b',rfl,h7,rfl,hpa,h8,rfl,hpb,h9⟩:=id hE;have hA':=hA;obtain ⟨rfl,rfl,rfl,h3,h4,ra,rb,rc,pa,la,pb,lb,hbw⟩:=hA';have hcl:=ajQ r a b Aa Ab ca cb W ra rb;have JF:=hide hcl;have k0:=h4.cell (j:=0) rfl;have k1:=h4.cell (j:=1) rfl;clear hcl;apply wp_seq_k;intro K hK;have HK:=hide hK;clear hK
 go_wp2_with (first | (refine aN 23 (.tmp 3) rfl ?_;refine aG (h3) Tryz.underlying23 rfl kV rfl (.tmp 3) rfl rfl ?_) | (go_at_call 58;refine JF.out.mono ?_;rintro e w1 ⟨rfl,hb1⟩;dsimp only))
 refine HK.out _ _ ?_;apply HN.out;exact ⟨hE.below hb1,rfl,rfl⟩
theorem aDB (W0:World) (r:M.Rules) (a b:List Sh) (Aa Ab:Option Addr) (ca cb:Nat) (C:List (Int × Int)) (Ac:Option Addr) (cc:Nat) (HG:Hid (Glob W0)) (HN:Hid (axI W0 r a b Aa Ab ca cb C Ac cc)):axB W0 r a b Aa Ab ca cb C Ac cc:=by
 dsimp only [axB,ADQ]
 intros
 rename_i W hf
 dsimp only [Z9,dQ,Tryz.f14,Option.getD]
 obtain ⟨hE,rfl,rfl⟩:=hf;obtain ⟨hA,B7,A8,c8,a',A9,c9,b',rfl,h7,rfl,hpa,h8,rfl,hpb,h9⟩:=id hE;have hA':=hA;obtain ⟨rfl,rfl,rfl,h3,h4,ra,rb,rc,pa,la,pb,lb,hbw⟩:=hA';have hcl:=anM _ _ r a C Aa Ac ca cc W ra rc;have JF:=hide hcl;have k0:=h4.cell (j:=0) rfl;clear hcl;apply wp_seq_k;intro K hK;have HK:=hide hK;clear hK
 go_wp2_with (first | (refine aN 23 (.tmp 3) rfl ?_;refine aG (h3) Tryz.underlying23 rfl kV rfl (.tmp 3) rfl rfl ?_) | (go_at_call 60;refine JF.out.mono ?_;rintro e w1 ⟨rfl,hb1⟩;dsimp only))
 refine HK.out _ _ ?_;apply HN.out;exact ⟨hE.below hb1,⟨rfl,rfl⟩,rfl,rfl⟩
theorem aDI (W0:World) (r:M.Rules) (a b:List Sh) (Aa Ab:Option Addr) (ca cb:Nat) (C:List (Int × Int)) (Ac:Option Addr) (cc:Nat) (HG:Hid (Glob W0)) (HN:Hid (axP W0 r a b Aa Ab ca cb C Ac cc)):axI W0 r a b Aa Ab ca cb C Ac cc:=by
 dsimp only [axI,ADQ]
 intros
 rename_i W hf
 dsimp only [Z9,dQ,Tryz.f14,Option.getD]
 obtain ⟨hE,⟨rfl,rfl⟩,rfl,rfl⟩:=hf;obtain ⟨hA,B7,A8,c8,a',A9,c9,b',rfl,h7,rfl,hpa,h8,rfl,hpb,h9⟩:=id hE;have hA':=hA;obtain ⟨rfl,rfl,rfl,h3,h4,ra,rb,rc,pa,la,pb,lb,hbw⟩:=hA';apply wp_seq_k;intro K hK;have HK:=hide hK;clear hK
 go_wp2_with (first | (refine aN 25 (.tmp 7) rfl ?_;refine aG (h7) Tryz.underlying25 rfl Zm rfl (.tmp 7) rfl rfl ?_) | (refine aN 25 (.tmp 7) rfl ?_;refine su (h7) Tryz.underlying25 rfl Zm rfl (.tmp 7) rfl rfl ?_) | (refine vg 25 (.tmp 7) rfl ?_;refine sD (h7) Tryz.underlying25 rfl Zm (.tmp 7) rfl rfl ?_) | (go_at_call 20;refine (ahR _ r a' A8 c8 _ h8).mono ?_;rw [hpa];rintro e w3 ⟨rfl,hb3⟩;dsimp only))
 refine HK.out _ _ ?_;apply HN.out;exact ⟨hE.below hb3,⟨rfl,rfl⟩,⟨rfl,rfl⟩,rfl⟩
theorem aDP (W0:World) (r:M.Rules) (a b:List Sh) (Aa Ab:Option Addr) (ca cb:Nat) (C:List (Int × Int)) (Ac:Option Addr) (cc:Nat) (HG:Hid (Glob W0)) (HN:Hid (axW W0 r a b Aa Ab ca cb C Ac cc)):axP W0 r a b Aa Ab ca cb C Ac cc:=by
 dsimp only [axP,ADQ]
 intros
 rename_i W hf
 dsimp only [Z9,dQ,Tryz.f14,Option.getD]
 obtain ⟨hE,⟨rfl,rfl⟩,⟨rfl,rfl⟩,rfl⟩:=hf;obtain ⟨hA,B7,A8,c8,a',A9,c9,b',rfl,h7,rfl,hpa,h8,rfl,hpb,h9⟩:=id hE;have hA':=hA;obtain ⟨rfl,rfl,rfl,h3,h4,ra,rb,rc,pa,la,pb,lb,hbw⟩:=hA';have hcl:=aeC (fun _=>True) b' A9 c9 W h9;rw [hpb] at hcl;have hfi:=fun A c W h=>adM (fun _=>True) A c [wP r a,M.je (plain b)] W h;have he:aU [wP r a,M.je (plain b)]=(abv r (plain a) (plain b)):=rfl
 simp only [he] at hfi
 have JF:=hide hcl;have HFI:=hide hfi;clear hcl hfi he;apply wp_seq_k;intro K hK;have HK:=hide hK;clear hK
 go_wp2_with (first | (go_at_call 41;refine JF.out.mono ?_;rintro e w1 ⟨rfl,hb1⟩;dsimp only) | (go_at_call 45;refine (HFI.out _ _ _ (bD.lit _ _ _ (by simp) _ trivial)).mono ?_;rintro e w2 ⟨rfl,rfl⟩;dsimp only))
 refine HK.out _ _ ?_;apply HN.out;exact ⟨(hE.below hb1).below ((Below.refl _ _).alloc (Nat.le_refl _) _),⟨rfl,rfl⟩,⟨rfl,rfl⟩,rfl,rfl⟩
theorem aDW (W0:World) (r:M.Rules) (a b:List Sh) (Aa Ab:Option Addr) (ca cb:Nat) (C:List (Int × Int)) (Ac:Option Addr) (cc:Nat) (HG:Hid (Glob W0)) (HN:Hid (aq6 W0 r a b Aa Ab ca cb C Ac cc)):axW W0 r a b Aa Ab ca cb C Ac cc:=by
 dsimp only [axW,ADQ]
 intros
 rename_i W hf
 dsimp only [Z9,dQ,Tryz.f14,Option.getD]
 obtain ⟨hE,⟨rfl,rfl⟩,⟨rfl,rfl⟩,rfl,rfl⟩:=hf;obtain ⟨hA,B7,A8,c8,a',A9,c9,b',rfl,h7,rfl,hpa,h8,rfl,hpb,h9⟩:=id hE;have hA':=hA;obtain ⟨rfl,rfl,rfl,h3,h4,ra,rb,rc,pa,la,pb,lb,hbw⟩:=hA';apply wp_seq_k;intro K hK;have HK:=hide hK;clear hK;go_wp2;refine HK.out _ _ ?_;apply wp_seq_k;intro K2 hK2;have PD:=hide hK2;clear hK2;apply wp_seq_k;intro K3 hK3;have HK3:=hide hK3;clear hK3
 by_cases h0:(abv r (plain a) (plain b))=0
 · have q0:((abv r (plain a) (plain b)) == 0)=true:=by simpa using h0
   have hck:=abC (show aU [wP r a,M.je (plain b)]=0 from h0);have Fb:=abC (show aU [M.aH r,M.je (plain a)]=0 from hck.1);have hch:=ain (fun _=>True) (fun _=>True) r a' b' A8 A9 c8 c9 W h8 h9 Fb.1 (by rw [hpa];exact Fb.2) (by rw [hpb];exact hck.2);rw [hpa,hpb] at hch;have hv:(aef r (plain a) (plain b))=M.changed r (plain a) (plain b):=if_pos h0;rw [← hv] at hch;have HCH:=hide hch;clear hch hv hck Fb h0;go_wp2;refine HK3.out _ _ ?_
   go_wp2_with (first | (refine aN 25 (.tmp 7) rfl ?_;refine aG (h7) Tryz.underlying25 rfl Zm rfl (.tmp 7) rfl rfl ?_) | (refine aN 25 (.tmp 7) rfl ?_;refine su (h7) Tryz.underlying25 rfl Zm rfl (.tmp 7) rfl rfl ?_) | (refine vg 25 (.tmp 7) rfl ?_;refine sD (h7) Tryz.underlying25 rfl Zm (.tmp 7) rfl rfl ?_) | (go_at_call 59;refine HCH.out.mono ?_;rintro e w2 ⟨rfl,hb2⟩;dsimp only))
   refine PD.out _ _ ?_;apply HN.out;exact ⟨hE.below hb2,⟨rfl,rfl⟩,⟨rfl,rfl⟩,rfl,rfl,rfl,rfl⟩
 · have q0:((abv r (plain a) (plain b)) == 0)=false:=by simpa using h0
   have hv:(aef r (plain a) (plain b))=0:=if_neg h0;have HV:=hide hv;clear hv h0;go_wp2;refine HK3.out _ _ ?_;go_wp2;refine PD.out _ _ ?_;apply HN.out;exact ⟨hE,⟨rfl,rfl⟩,⟨rfl,rfl⟩,rfl,rfl,by rw [HV.out],rfl⟩
theorem azR (W0:World) (r:M.Rules) (a b:List Sh) (Aa Ab:Option Addr) (ca cb:Nat) (C:List (Int × Int)) (Ac:Option Addr) (cc:Nat) (HG:Hid (Glob W0)) (HN:Hid (arf W0 r a b Aa Ab ca cb C Ac cc)):aq6 W0 r a b Aa Ab ca cb C Ac cc:=by
 dsimp only [aq6,ADQ]
 intros
 rename_i W hf
 dsimp only [Z9,dQ,Tryz.f14,Option.getD]
 obtain ⟨hE,⟨rfl,rfl⟩,⟨rfl,rfl⟩,rfl,rfl,rfl,rfl⟩:=hf;obtain ⟨hA,B7,A8,c8,a',A9,c9,b',rfl,h7,rfl,hpa,h8,rfl,hpb,h9⟩:=id hE;have hA':=hA;obtain ⟨rfl,rfl,rfl,h3,h4,ra,rb,rc,pa,la,pb,lb,hbw⟩:=hA';apply wp_seq_k;intro K hK;have HK:=hide hK;clear hK;apply wp_seq_k;intro K2 hK2;have PD:=hide hK2;clear hK2
 by_cases h0:wP r a=0
 · have q0:(wP r a == 0)=true:=by simpa using h0
   have hck:=abC (show aU [M.aH r,M.je (plain a)]=0 from h0);have hch:=aj6 (fun _=>True) (fun _=>True) r a' C A8 Ac c8 cc W h8 rc hck.1 (by rw [hpa];exact hck.2)
   have hl:a'.length=a.length:=by have:=congrArg List.length hpa;rwa [eF,eF] at this
   have e1:auE a' C=ad1 r a C:=by rw [aic,if_pos h0];unfold auE;rw [hl]
   have e2:auV r a' C=ad8 r a C:=by rw [aus h0];unfold auV;rw [hl,hpa]
   rw [e1,e2] at hch;have HCH:=hide hch;clear hch e1 e2 hl hck h0;go_wp2;refine PD.out _ _ ?_
   go_wp2_with (first | (refine aN 25 (.tmp 7) rfl ?_;refine aG (h7) Tryz.underlying25 rfl Zm rfl (.tmp 7) rfl rfl ?_) | (refine aN 25 (.tmp 7) rfl ?_;refine su (h7) Tryz.underlying25 rfl Zm rfl (.tmp 7) rfl rfl ?_) | (refine vg 25 (.tmp 7) rfl ?_;refine sD (h7) Tryz.underlying25 rfl Zm (.tmp 7) rfl rfl ?_) | (go_at_call 61;refine HCH.out.mono ?_;rintro e w2 ⟨rfl,hb2⟩;dsimp only))
   refine HK.out _ _ ?_;apply HN.out;exact ⟨VY hbw hb2,⟨rfl,rfl⟩,⟨rfl,rfl⟩,rfl,rfl,rfl,rfl⟩
 · have q0:(wP r a == 0)=false:=by simpa using h0
   have e1:ad1 r a C=wP r a:=by rw [aic,if_neg h0]
   have e2:ad8 r a C=0:=if_neg (by rw [e1];exact h0);have HV:=hide (And.intro e1 e2);clear e1 e2 h0;go_wp2;refine PD.out _ _ ?_;go_wp2;refine HK.out _ _ ?_;apply HN.out;exact ⟨hbw,⟨rfl,rfl⟩,⟨rfl,rfl⟩,by rw [HV.out.1],rfl,rfl,by rw [HV.out.2]⟩
theorem azY (W0:World) (r:M.Rules) (a b:List Sh) (Aa Ab:Option Addr) (ca cb:Nat) (C:List (Int × Int)) (Ac:Option Addr) (cc:Nat) (HG:Hid (Glob W0)):arf W0 r a b Aa Ab ca cb C Ac cc:=by
 dsimp only [arf,ADQ]
 intros
 rename_i W hf
 dsimp only [Z9,dQ,Tryz.f14,Option.getD]
 obtain ⟨hbw,⟨rfl,rfl⟩,⟨rfl,rfl⟩,rfl,rfl,rfl,rfl⟩:=hf;have HG9:=hide (HG.out.below hbw);obtain ⟨E,hEE⟩:∃ q,(abv r (plain a) (plain b))=q:=⟨_,rfl⟩;obtain ⟨v,hvv⟩:∃ q,(aef r (plain a) (plain b))=q:=⟨_,rfl⟩;obtain ⟨E',az5⟩:∃ q,ad1 r a C=q:=⟨_,rfl⟩;obtain ⟨v',aA6⟩:∃ q,ad8 r a C=q:=⟨_,rfl⟩;rw [hEE,hvv,az5,aA6];have q1:(E == E)=true:=beq_self_eq_true _;have q2:(v == v)=true:=beq_self_eq_true _;have q3:(E' == E')=true:=beq_self_eq_true _;have q4:(v' == v')=true:=beq_self_eq_true _;clear hEE hvv az5 aA6;apply wp_seq_k;intro K hK;have HK:=hide hK;clear hK
 go_wp2_with (first | (go_at_call 17;refine (QJ _ HG9.out).mono ?_;rintro e w9 ⟨rfl,U6⟩;dsimp only))
 refine HK.out _ _ ?_;go_wp2;go_ret;exact ⟨rfl,VY hbw U6⟩
theorem amO (W0:World) (hg:Glob W0) (r:M.Rules) (a b:List Sh) (Aa Ab:Option Addr) (ca cb:Nat) (C:List (Int × Int)) (Ac:Option Addr) (cc:Nat)
 (ra:wG W0 (fun _=>True) Aa ca a∧(∀ e∈a,e.x.aA.length*16≤140737488355328)∧a.length*80≤140737488355328) (rb:wG W0 (fun _=>True) Ab cb b∧(∀ e∈b,e.x.aA.length*16≤140737488355328)∧b.length*80≤140737488355328) (rc:RdC W0 (fun _=>True) Ac cc C):
 Calls Tryz.prog 14 #[jM r,.agg #[.slice Aa a.length ca,.slice Ab b.length cb],.slice Ac C.length cc] W0 fun e w'=>e= .returned (.bool true)∧Below W0.heap.size W0 w':=by
 have HG:=hide hg;have hall:=aDg W0 r a b Aa Ab ca cb C Ac cc HG (hide (aDn W0 r a b Aa Ab ca cb C Ac cc HG (hide (aDu W0 r a b Aa Ab ca cb C Ac cc HG (hide (aDB W0 r a b Aa Ab ca cb C Ac cc HG (hide (aDI W0 r a b Aa Ab ca cb C Ac cc HG (hide (aDP W0 r a b Aa Ab ca cb C Ac cc HG (hide (aDW W0 r a b Aa Ab ca cb C Ac cc HG (hide (azR W0 r a b Aa Ab ca cb C Ac cc HG (hide (azY W0 r a b Aa Ab ca cb C Ac cc HG))))))))))))))));have ajC:=hide hall;clear hall
 go_enter Tryz.func14,Tryz.ntmps14
 apply wp_seq_k;intro K hK;have HK:=hide hK;clear hK;have hB:=((bU.nil W0).new (by simp) ([.string r.game,.int .i64 r.target,.int .i64 r.aY]) 23).new (by simp) ([.slice Aa a.length ca,.slice Ab b.length cb]) 118;go_wp2;refine HK.out _ _ ?_;have HA:=ajC.out;apply HA;exact ⟨rfl,rfl,rfl,hB.bf rfl,hB.get 1 rfl,ra.1.below hB.bw,rb.1.below hB.bw,Reads.below rc hB.bw,ra.2.1,ra.2.2,rb.2.1,rb.2.2,hB.bw⟩
end Go.Proofs.YtelpepbpdojikaaGreatDoor
namespace Go.Proofs.YtelpepbpdojikaaGreatDoor
open Go.RowKit Go.ChangeShapes Go.WideShapes
section
variable {H:Type} {enc:TypeId × Value→H} {W:World}
theorem ayv:Tryz.prog.cellsOf 118=2:=by kernel_rfl
theorem aC9:Tryz.prog.bytesOf 31=16:=by kernel_rfl
theorem avj {P:Program} {t e:TypeId} {n:Nat} {b0:Nat} {v:Value} {cs:List Value} (ht:P.underlying t=some (.array n e)) (hv:Value.okWide P W .any b0 t v) (h:v.cells.toList=cs):v= .agg cs.toArray:=by
 simp only [Value.okWide,ht] at hv
 obtain ⟨l,rfl,_⟩:=hv;have h:l.toList=cs:=h;rw [← h]
theorem aqi {n:Nat} {cs:List Value} {x:DataW H × List MemPlace} (h:DataW.trod enc Tryz.prog W 0 (fun _=>true) true n 118 cs=some x) (hw:(x.1.weights Tryz.prog 118).all (· ≤reachBytes)=true):
 ∃ (A B:Option Addr) (c d:Nat) (l m:List Sh),cs=[.slice A l.length c,.slice B m.length d]∧(wG W (fun _=>True) A c l∧(∀ e∈l,e.x.aA.length*16≤140737488355328)∧l.length*80≤140737488355328)∧wG W (fun _=>True) B d m∧(∀ e∈m,e.x.aA.length*16≤140737488355328)∧m.length*80≤140737488355328:=by
 obtain ⟨ys,k,_,rfl,hl,hlen,hf⟩:=DataW.trod_array Tryz.underlying118 h;obtain ⟨v0,v1,rfl⟩:=alK (hl.trans ayv);obtain ⟨y0,y1,rfl⟩:=alK hlen;have g0:=hf 0 (by omega);have g1:=hf 1 (by omega);clear hf h
 simp [avx] at g0 g1
 rw [DataW.weights.eq_def] at hw
 simp only [Tryz.underlying118,List.map_cons,List.map_nil,DataW.weightsAll] at hw
 have hw0:=Zl hw;have hw1:=Zl (Zg hw);obtain ⟨A,c,l,e0,p0⟩:=ah5 g0 hw0;obtain ⟨B,d,m,e1,p1⟩:=ah5 g1 hw1
 cases e0;cases e1
 exact ⟨A,B,c,d,l,m,rfl,p0,p1⟩
theorem alY {n:Nat} {cs:List Value} {x:DataW H × List MemPlace} (h:DataW.trod enc Tryz.prog W 0 (fun _=>true) true n 119 cs=some x) (hw:(x.1.weights Tryz.prog 119).all (· ≤reachBytes)=true):
 ∃ (A:Option Addr) (c:Nat) (C:List (Int × Int)),cs=[.slice A C.length c]∧RdC W (fun _=>True) A c C:=by
 obtain ⟨A,c,l,e,hr,_,_⟩:=afi (f:=clC) (Q:=fun _=>True) Tryz.underlying119 awM (by omega) ajJ (by rw [aC9];omega)
  (fun n cs x h _=>let ⟨a,b,e⟩:=aul h;⟨(a,b),e,trivial⟩) h hw
 exact ⟨A,c,l,e,hr⟩
variable {b0:Nat} {v:Value} {d:DataW H} {ps:List MemPlace}
theorem ata (hv:Value.okWide Tryz.prog W .any b0 118 v) (h:DataW.Trod enc Tryz.prog W 0 (fun _=>true) true 118 v d ps) (hw:(d.weights Tryz.prog 118).all (· ≤reachBytes)=true):
 ∃ (A B:Option Addr) (c d:Nat) (l m:List Sh),v= .agg #[.slice A l.length c,.slice B m.length d]∧(wG W (fun _=>True) A c l∧(∀ e∈l,e.x.aA.length*16≤140737488355328)∧l.length*80≤140737488355328)∧wG W (fun _=>True) B d m∧(∀ e∈m,e.x.aA.length*16≤140737488355328)∧m.length*80≤140737488355328:=by
 obtain ⟨n,hn⟩:=h;obtain ⟨A,B,c,d,l,m,he,h1,h2⟩:=aqi hn hw;exact ⟨A,B,c,d,l,m,avj (P:=Tryz.prog) Tryz.underlying118 hv he,h1,h2⟩
theorem amH (hv:Value.okWide Tryz.prog W .any b0 119 v) (h:DataW.Trod enc Tryz.prog W 0 (fun _=>true) true 119 v d ps) (hw:(d.weights Tryz.prog 119).all (· ≤reachBytes)=true):
 ∃ (A:Option Addr) (c:Nat) (C:List (Int × Int)),v= .slice A C.length c∧RdC W (fun _=>True) A c C:=by
 obtain ⟨n,hn⟩:=h;obtain ⟨A,c,C,he,h1⟩:=alY hn hw;obtain ⟨a,k,m,rfl⟩:=okWide_slice Tryz.underlying119 hv;have he:[Value.slice a k m]=[.slice A C.length c]:=he;exact ⟨A,c,C,List.singleton_inj.1 he,h1⟩
end
end Go.Proofs.YtelpepbpdojikaaGreatDoor
