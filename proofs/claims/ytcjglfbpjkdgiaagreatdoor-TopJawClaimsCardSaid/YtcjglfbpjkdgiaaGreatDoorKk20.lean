/- Parts of a proof. -/
import Derived.Test.YtcjglfbpjkdgiaaGreatDoorKk11
set_option maxHeartbeats 12000000
set_option maxRecDepth 100000
set_option linter.unusedVariables false
set_option linter.unusedSimpArgs false
namespace Go.Proofs.YtcjglfbpjkdgiaaGreatDoor
open Go.RowKit
theorem acg (S:Nat→Prop) (n:Int) (r:M.Rules) (s:M.State) (x:M.aV) (A P:Option Addr) (c d:Nat) (w:World) (hp:bQ w S A c s.au) (hpp:fP w S P d x.aC) (hck:M.bT x=0) (hr:M.aQ r=0) (hk:M.Ok r n s) (hn:0≤n∧n≤500000) (hpl:x.aG=0) (hl:M.Lawful r s x) (hc:x.kind≠M.bC):
 Calls Tryz.prog 104 #[dX r s A c,iy x P d] w fun e w'=>∃ A' c',e= .returned (dX r (M.play r s x) A' c')∧bQ w' (fun b=>w.heap.size≤b) A' c' (M.play r s x).au∧Below w.heap.size w w':=by
 obtain ⟨hx,sD,_⟩:=xq hck;have hsx:=M.lV hck;have Gg:=hsx.objs;have hpos:∀ p∈x.aC,0≤p.aT:=fun p h=>(sD p h).1.1;have hg:=hk.group;have hF:=fun W h h'=>xC S r s x A P c d W h h' hx hpos hr hg;have hG:=fun W h h'=>Io S r s x A P c d W h h' hx hpos hr hg;have hL:=fun W h h'=>Ja S r s x A P c d (M.good r s x) W h h' hpos;rw [← EM hr] at hL;obtain ⟨fl,hfl⟩:∃ q,M.iw r s x=q:=⟨_,rfl⟩;obtain ⟨gd,hgd⟩:∃ q,M.good r s x=q:=⟨_,rfl⟩;rw [hfl] at hF;rw [hgd] at hG hL;obtain ⟨pu,hpu⟩:∃ q,decide (r.game=M.dA∧x.kind=M.dS)=q:=⟨_,rfl⟩;obtain ⟨pd,Zf⟩:∃ q,decide (x.kind=M.gI)=q:=⟨_,rfl⟩
 have hcm:M.calm r s x= {s with brk:=false,hand:=false,push:=pu,pushed:=pd }:=by unfold M.calm;rw [hpu,Zf]
 have hC:=fun W h=>BF S r s x A P c d W h
 simp only [hcm] at hC
 have HC:=hide hC;have HCM:=hide hcm;clear hC hcm hpu Zf;have HF:=hide hF;have HG:=hide hG;have HL:=hide hL;have ZC:=hide hfl;have Sv:=hide hgd;clear hF hG hL hfl hgd;have uD:=hide hpl;clear hpl
 go_enter Tryz.func104,Tryz.ntmps104
 go_upto_region 0 with (fail)
 go_cut [2,3,4] (fun v2 v3 v4 wx=>v2=ptr w.heap.size∧v3=ptr (w.heap.size+1)∧v4=ptr (w.heap.size+2)∧aX w wx [(aj r (s) A c,99),(aA ⟨x,P,d⟩,27),(aY,99)])
 case first=>
  as_aux_lemma=>
   go_wp2;go_meet;exact ⟨rfl,rfl,rfl,((((aX.nil w).new (by simp) (aj r (s) A c) _).new (by simp) (aA ⟨x,P,d⟩) _).new (by simp) (aY) _)⟩
 case rest=>
  obtain ⟨rfl,rfl,rfl,hB⟩:=hcut
  go_upto_region 1 with (fail)
  go_cut [5,6] (fun v5 v6 wx=>v5= .int .i64 fl∧v6= .bool gd∧aX w wx [(aj r (s) A c,99),(aA ⟨x,P,d⟩,27),(aY,99)])
  case first=>
   as_aux_lemma=>
    have ML:∀ W:World,(fun w':World=>∀ p q,p<w.heap.size+3→w'.cell? ⟨p,q,none⟩=wc.cell? ⟨p,q,none⟩) W→W.rangeAt w.heap.size 0 (aj r (s) A c):=fun W h j v hj=>by rw [h _ _ (by omega)];exact (hB.ah rfl).range j v hj
    have Ll:∀ W:World,(fun w':World=>∀ p q,p<w.heap.size+3→w'.cell? ⟨p,q,none⟩=wc.cell? ⟨p,q,none⟩) W→W.rangeAt (w.heap.size+1) 0 (aA ⟨x,P,d⟩):=fun W h j v hj=>by rw [h _ _ (by omega)];exact (hB.get 1 rfl).range j v hj
    refine wp_region_held_drew (S:=(fun w':World=>∀ p q,p<w.heap.size+3→w'.cell? ⟨p,q,none⟩=wc.cell? ⟨p,q,none⟩)) (by kernel_rfl) ?dY (fun hHeld=>?_)
    case dY=>first | exact fun p q h=>rfl | exact fun p q h=>hB.drew.cells hb1 p q h | exact fun p q h=>(hB1.cells hb2 p q h).trans (hB.drew.cells hb1 p q h)
    refine wpAnyH_take (i:=0) (oi:=_) (v:=_) (ga rfl) (by kernel_rfl) (by kernel_rfl) (by kernel_rfl) (fun _ _ _ h=>h) (yieldsIf_load_mid (by rfl) _ _ (by rfl) _ _ (by rfl) _ _ ML Tryz.underlying99 rfl (by kernel_rfl)) (by assumption) ?_
    try simp only [Act.put,la,lz,ls]
    refine wpAnyH_take (i:=1) (oi:=_) (v:=_) (ga rfl) (by kernel_rfl) (by kernel_rfl) (by kernel_rfl) (fun _ _ _ h=>h) (yieldsIf_load_mid (by rfl) _ _ (by rfl) _ _ (by rfl) _ _ Ll Tryz.underlying27 rfl (by kernel_rfl)) (by assumption) ?_
    try simp only [Act.put,la,lz,ls]
    refine wpAnyH_take (i:=3) (oi:=_) (v:=_) (ga rfl) (by kernel_rfl) (by kernel_rfl) (by kernel_rfl) (fun _ _ _ h=>h) (yieldsIf_load_mid (by rfl) _ _ (by rfl) _ _ (by rfl) _ _ ML Tryz.underlying99 rfl (by kernel_rfl)) (by assumption) ?_
    try simp only [Act.put,la,lz,ls]
    refine wpAnyH_take (i:=4) (oi:=_) (v:=_) (ga rfl) (by kernel_rfl) (by kernel_rfl) (by kernel_rfl) (fun _ _ _ h=>h) (yieldsIf_load_mid (by rfl) _ _ (by rfl) _ _ (by rfl) _ _ Ll Tryz.underlying27 rfl (by kernel_rfl)) (by assumption) ?_
    try simp only [Act.put,la,lz,ls]
    refine tr 2 fun K hK=>?_;go_simp
    (first | (go_at_call 39;refine (HF.out _ (hp.below hB.drew.bw) (hpp.below hB.drew.bw)).mono ?_;rintro e w1 ⟨rfl,hb1⟩;have hB1:=hB.drew.call (by simp) hb1) | (go_at_call 154;refine (HG.out _ (hp.below hB1.bw) (hpp.below hB1.bw)).mono ?_;rintro e w2 ⟨rfl,hb2⟩;have hB2:=hB1.call (by simp) hb2))
    refine hK.out _ _ ?Vh (fun hHeld=>?_)
    case Vh=>(first | (first | exact fun p q h=>rfl | exact fun p q h=>hB.drew.cells hb1 p q h | exact fun p q h=>(hB1.cells hb2 p q h).trans (hB.drew.cells hb1 p q h)) | (dsimp only;first | exact fun p q h=>rfl | exact fun p q h=>hB.drew.cells hb1 p q h | exact fun p q h=>(hB1.cells hb2 p q h).trans (hB.drew.cells hb1 p q h)))
    clear hK K
    try simp only [Act.put,la,lz,ls]
    refine tr 5 fun K hK=>?_;go_simp
    (first | (go_at_call 39;refine (HF.out _ (hp.below hB.drew.bw) (hpp.below hB.drew.bw)).mono ?_;rintro e w1 ⟨rfl,hb1⟩;have hB1:=hB.drew.call (by simp) hb1) | (go_at_call 154;refine (HG.out _ (hp.below hB1.bw) (hpp.below hB1.bw)).mono ?_;rintro e w2 ⟨rfl,hb2⟩;have hB2:=hB1.call (by simp) hb2))
    refine hK.out _ _ ?Vq (fun hHeld=>?_)
    case Vq=>(first | (first | exact fun p q h=>rfl | exact fun p q h=>hB.drew.cells hb1 p q h | exact fun p q h=>(hB1.cells hb2 p q h).trans (hB.drew.cells hb1 p q h)) | (dsimp only;first | exact fun p q h=>rfl | exact fun p q h=>hB.drew.cells hb1 p q h | exact fun p q h=>(hB1.cells hb2 p q h).trans (hB.drew.cells hb1 p q h)))
    clear hK K
    try simp only [Act.put,la,lz,ls]
    refine tk 6 ?_;refine tk 7 ?_;refine wpAnyH_done (by kernel_rfl) ?_ _;go_wp2;go_meet;exact ⟨rfl,rfl,hB2⟩
  case rest=>
   obtain ⟨rfl,rfl,hB⟩:=hcut;have Aw:=hB.get 1 rfl;have x0:=Aw.cell (j:=0) rfl;rw [uD.out] at x0
   go_upto_region 3 with (fail)
   go_cut [8] (fun v8 wx=>∃ D A1 c1,v8=ptr D∧w.heap.size+3≤D∧eU w wx [(aj r (s) A c,99),(aA ⟨x,P,d⟩,27),(aY,99)] D (aj r ({s with brk:=false,hand:=false,push:=pu,pushed:=pd }) A1 c1))
   case first=>
    as_aux_lemma=>
     go_wp2_with (first | (refine aB 99 (.tmp 2) rfl ?_;refine ak (hB.ah rfl) Tryz.underlying99 rfl ay rfl (.tmp 2) rfl rfl ?_) | (refine aB 27 (.tmp 3) rfl ?_;refine ak (hB.get 1 rfl) Tryz.underlying27 rfl bG rfl (.tmp 3) rfl rfl ?_) | (go_at_call 102;refine (HC.out _ (hp.below hB.bw)).mono ?_;rintro e w1 ⟨A1,c1,rfl,hr1,hb1⟩;have hB1:=hB.call (by simp) hb1;have hB2:=hB1.alloc (by simp) (.cells aY.toArray 99);have hG1:=Held.new w1 aY 99) | (refine aO 99 (.tmp 8) (.tmp 22) rfl ?_;refine aF hG1 (aj r ({s with brk:=false,hand:=false,push:=pu,pushed:=pd }) A1 c1) rfl ay (bM _ _ _ _) rfl (.tmp 8) (.tmp 22) rfl rfl rfl ?_))
     go_meet;have hsz:=hB1.size (by simp)
     simp only [List.length_cons,List.length_nil] at hsz
     exact ⟨w1.heap.size,A1,c1,rfl,hsz,hB2.Ig hsz _ 0,hG1.whole _ rfl⟩
   case rest=>
    obtain ⟨D,A1,c1,rfl,hD,hQ⟩:=hcut;clear hB Aw x0
    go_upto_region 4 with (fail)
    go_cut [] (fun wx=>∃ A2 c2,eU w wx [(aj r (s) A c,99),(aA ⟨x,P,d⟩,27),(aY,99)] D (aj r ({s with brk:=false,hand:=false,push:=pu,pushed:=pd,au:=M.left r s x }) A2 c2)∧bQ wx (fun b=>w.heap.size+3≤b∧b≠D) A2 c2 (M.left r s x))
    case first=>
     as_aux_lemma=>
      go_wp2_with (first | (refine aB 99 (.tmp 2) rfl ?_;refine ak (hQ.b.ah rfl) Tryz.underlying99 rfl ay rfl (.tmp 2) rfl rfl ?_) | (refine aB 27 (.tmp 3) rfl ?_;refine ak (hQ.b.get 1 rfl) Tryz.underlying27 rfl bG rfl (.tmp 3) rfl rfl ?_) | (go_at_call 155;refine (HL.out _ (hp.below hQ.b.bw) (hpp.below hQ.b.bw)).mono ?_;rintro e w1 ⟨A2,c2,rfl,hr1,hb1⟩;have CJ:=hQ.call (by simp) hb1;have q9:=CJ.g.cell (j:=9) rfl;have qf9:=CJ.g.frozen 9))
      go_meet;have hsz:=hQ.b.size (by simp);have hDl:=hQ.g.lt
      simp only [List.length_cons,List.length_nil] at hsz
      exact ⟨A2,c2,CJ.set hD 9 _,(hr1.more (fun b _ h=>⟨by omega,by omega⟩)).setCell (fun h=>h.2 rfl) _⟩
    case rest=>
     obtain ⟨A2,c2,hQ,hrk⟩:=hcut;have qs:=hQ.g.cell (j:=10) rfl;have qf:=hQ.g.cell (j:=12) rfl;have qr:=hQ.g.cell (j:=14) rfl;have hb0:=hk.s0;have hb1:=hk.run;have hb2:=hk.f0;have hb3:=hk.bI
     go_upto_if 29 with (fail)
     go_cut [] (fun wx=>eU w wx [(aj r (s) A c,99),(aA ⟨x,P,d⟩,27),(aY,99)] D (aj r ({s with brk:=false,hand:=false,push:=pu,pushed:=pd,au:=M.left r s x,s0:=(if gd=true then s.s0+(M.objects x).length else s.s0),run:=(if gd=true then s.run+(M.objects x).length else s.run) }) A2 c2)∧bQ wx (fun b=>w.heap.size+3≤b∧b≠D) A2 c2 (M.left r s x))
     case first=>
      as_aux_lemma=>
       rcases gd with _ | _
       · go_wp2
         go_meet;exact ⟨hQ,hrk⟩
       · go_wp2_with (first | (refine aB 27 (.tmp 3) rfl ?_;refine ak (hQ.b.get 1 rfl) Tryz.underlying27 rfl bG rfl (.tmp 3) rfl rfl ?_) | (go_at_call 81;refine (jW S x P d _ (hpp.below hQ.b.bw) hpos).mono ?_;rintro e w1 ⟨A3,c3,rfl,hr3,hb1⟩;have CJ:=hQ.call (by simp) hb1;have aaj:=hrk.below hb1;have u10:=CJ.g.cell (j:=10) rfl;have aGq:=CJ.g.frozen 10;have u14:=CJ.g.cell (j:=14) rfl;have axH:=CJ.g.frozen 14))
         go_meet;exact ⟨(CJ.set hD 10 _).set hD 14 _,(aaj.setCell (fun h=>h.2 rfl) _).setCell (fun h=>h.2 rfl) _⟩
     case rest=>
      clear hQ hrk qs qf qr;obtain ⟨hQ,hrk⟩:=hcut;obtain ⟨a2,ha2⟩:∃ q,(if gd=true then s.s0+(M.objects x).length else s.s0)=q:=⟨_,rfl⟩;obtain ⟨b2,hb2'⟩:∃ q,(if gd=true then s.run+(M.objects x).length else s.run)=q:=⟨_,rfl⟩;rw [ha2,hb2'] at hQ
      have va2: -500000≤a2∧a2≤500016:=by rw [← ha2];split <;> omega
      have vb2:0≤b2∧b2≤500016:=by rw [← hb2'];split <;> omega
      have HA2:=hide ha2;have HB2:=hide hb2';clear ha2 hb2';have qs:=hQ.g.cell (j:=10) rfl;have qf:=hQ.g.cell (j:=12) rfl;have qr:=hQ.g.cell (j:=14) rfl;have zs:=hQ.g.frozen 10;have zf:=hQ.g.frozen 12;have zr:=hQ.g.frozen 14;have k0:=(hQ.b.ah rfl).cell (j:=0) rfl
      go_upto_if 51 with (fail)
      go_cut [] (fun wx=>eU w wx [(aj r (s) A c,99),(aA ⟨x,P,d⟩,27),(aY,99)] D (aj r ({s with brk:=false,hand:=false,push:=pu,pushed:=pd,au:=M.left r s x,s0:=(if fl=0 then a2 else if r.game=M.aH then a2 - 1 else a2),run:=(if fl=0 then b2 else 0),f0:=(if fl=0 then 0 else s.f0+1) }) A2 c2)∧bQ wx (fun b=>w.heap.size+3≤b∧b≠D) A2 c2 (M.left r s x))
      case first=>
       as_aux_lemma=>
        rcases zq:(fl == 0) with _ | _
        · have zn:¬ fl=0:=by simpa using zq
          have Hn:=hide zn;clear zn
          rcases zg:(r.game.toList == [115,116,114,97,105,103,104,116]) with _ | _
          · have W9:¬ r.game=M.aH:=by rw [dn r.game [115,116,114,97,105,103,104,116]] at zg;simpa using zg
            have ZG:=hide W9;clear W9;go_wp2;go_meet;rw [if_neg Hn.out,if_neg Hn.out,if_neg Hn.out,if_neg ZG.out];exact ⟨(hQ.set hD 12 _).set hD 14 _,(hrk.setCell (fun h=>h.2 rfl) _).setCell (fun h=>h.2 rfl) _⟩
          · have W9:r.game=M.aH:=by rw [dn r.game [115,116,114,97,105,103,104,116]] at zg;simpa using zg
            have ZG:=hide W9;clear W9;go_wp2;go_meet;rw [if_neg Hn.out,if_neg Hn.out,if_neg Hn.out,if_pos ZG.out];exact ⟨((hQ.set hD 12 _).set hD 14 _).set hD 10 _,((hrk.setCell (fun h=>h.2 rfl) _).setCell (fun h=>h.2 rfl) _).setCell (fun h=>h.2 rfl) _⟩
        · have zn:fl=0:=by simpa using zq
          have Hn:=hide zn;clear zn;go_wp2;go_meet;rw [if_pos Hn.out,if_pos Hn.out,if_pos Hn.out];exact ⟨hQ.set hD 12 _,hrk.setCell (fun h=>h.2 rfl) _⟩
      case rest=>
       clear hQ hrk qs qf qr zs zf zr k0;obtain ⟨hQ,hrk⟩:=hcut;obtain ⟨a3,TS⟩:∃ q,(if fl=0 then a2 else if r.game=M.aH then a2 - 1 else a2)=q:=⟨_,rfl⟩;obtain ⟨b3,Ea⟩:∃ q,(if fl=0 then b2 else 0)=q:=⟨_,rfl⟩;obtain ⟨f3,hf3⟩:∃ q,(if fl=0 then 0 else s.f0+1)=q:=⟨_,rfl⟩;rw [TS,Ea,hf3] at hQ
       have va3: -500001≤a3∧a3≤500016:=by rw [← TS];split <;> first | omega | (split <;> omega)
       have vf3:0≤f3∧f3≤500001:=by rw [← hf3];split <;> omega
       have hct:M.counted r s x= {s with brk:=false,hand:=false,push:=pu,pushed:=pd,au:=M.left r s x,s0:=a3,run:=b3,f0:=f3 }:=by
        have e1:=HA2.out;have e2:=HB2.out;rw [M.iH,HCM.out]
        unfold M.sc M.fc M.rc
        simp only [uD.out,ZC.out,Sv.out,if_true]
        rw [← TS, ← Ea, ← hf3, ← e1, ← e2]
       have Sr:=hide hct;clear TS Ea hf3 hct;have hpl2:=uD.out;have hkey:=EZ (r:=r) (s:=s) (x:=x) hl hsx hc hr
       have Ub:(M.counted r s x).score x.aG=a3:=by rw [Sr.out,uD.out];rfl
       have TU:(M.counted r s x).kD x.aG=f3:=by rw [Sr.out,uD.out];rfl
       rw [Ub,TU,ZC.out,Sv.out,Sr.out] at hkey;obtain ⟨wn,hwn⟩:∃ q,(DN r s x gd a3).1=q:=⟨_,rfl⟩;obtain ⟨ov,hov⟩:∃ q,(DN r s x gd a3).2=q:=⟨_,rfl⟩;rw [hwn,hov] at hkey;have ZY:=fun W h h'=>DR S r s x A P c d gd a3 W h h' hpos hr hg (by omega) (by omega);rw [hwn,hov] at ZY;have HW:=hide ZY;have HK:=hide hkey;clear ZY hkey hwn hov Ub TU hpl2;have qs:=hQ.g.cell (j:=10) rfl
       go_upto_region 15 with (fail)
       go_cut [10,11] (fun v10 v11 wx=>v10= .int .i64 wn∧v11= .bool ov∧eU w wx [(aj r (s) A c,99),(aA ⟨x,P,d⟩,27),(aY,99)] D (aj r ({s with brk:=false,hand:=false,push:=pu,pushed:=pd,au:=M.left r s x,s0:=a3,run:=b3,f0:=f3 }) A2 c2)∧bQ wx (fun b=>w.heap.size+3≤b∧b≠D) A2 c2 (M.left r s x))
       case first=>
        as_aux_lemma=>
         have ML:∀ W:World,(fun w':World=>(∀ p q,p<w.heap.size+3→w'.cell? ⟨p,q,none⟩=wc.cell? ⟨p,q,none⟩)∧w'.cell? ⟨D,10,none⟩=some (.int .i64 a3)) W→W.rangeAt w.heap.size 0 (aj r (s) A c):=fun W h j v hj=>by rw [h.1 _ _ (by omega)];exact (hQ.b.ah rfl).range j v hj
         have Ll:∀ W:World,(fun w':World=>(∀ p q,p<w.heap.size+3→w'.cell? ⟨p,q,none⟩=wc.cell? ⟨p,q,none⟩)∧w'.cell? ⟨D,10,none⟩=some (.int .i64 a3)) W→W.rangeAt (w.heap.size+1) 0 (aA ⟨x,P,d⟩):=fun W h j v hj=>by rw [h.1 _ _ (by omega)];exact (hQ.b.get 1 rfl).range j v hj
         refine wp_region_held_drew (S:=(fun w':World=>(∀ p q,p<w.heap.size+3→w'.cell? ⟨p,q,none⟩=wc.cell? ⟨p,q,none⟩)∧w'.cell? ⟨D,10,none⟩=some (.int .i64 a3))) (by kernel_rfl) ?jm (fun hHeld=>?_)
         case jm=>first | exact ⟨fun p q h=>rfl,qs⟩ | exact ⟨fun p q h=>hQ.drew.b.cells hb1 p q h,(hb1.cell (p:=⟨D,_,none⟩) hQ.drew.g.lt).trans qs⟩
         refine wpAnyH_take (i:=0) (oi:=_) (v:=_) (ga rfl) (by kernel_rfl) (by kernel_rfl) (by kernel_rfl) (fun _ _ _ h=>h) (yieldsIf_load_mid (by rfl) _ _ (by rfl) _ _ (by rfl) _ _ ML Tryz.underlying99 rfl (by kernel_rfl)) (by assumption) ?_
         try simp only [Act.put,la,lz,ls]
         refine wpAnyH_take (i:=1) (oi:=_) (v:=_) (ga rfl) (by kernel_rfl) (by kernel_rfl) (by kernel_rfl) (fun _ _ _ h=>h) (yieldsIf_load_mid (by rfl) _ _ (by rfl) _ _ (by rfl) _ _ Ll Tryz.underlying27 rfl (by kernel_rfl)) (by assumption) ?_
         try simp only [Act.put,la,lz,ls]
         refine tk 2 ?_;refine tk 3 ?_;refine tk 4 ?_;refine tk 5 ?_;refine tk 6 ?_;refine tk 7 ?_;refine tr 8 fun K hK=>?_;go_simp
         (go_at_call 156;refine (HW.out _ (hp.below hQ.drew.b.bw) (hpp.below hQ.drew.b.bw)).mono ?_;rintro e w1 ⟨rfl,hb1⟩;have CJ:=hQ.drew.call (by simp) hb1)
         refine hK.out _ _ ?anF (fun hHeld=>?_)
         case anF=>(first | (first | exact ⟨fun p q h=>rfl,qs⟩ | exact ⟨fun p q h=>hQ.drew.b.cells hb1 p q h,(hb1.cell (p:=⟨D,_,none⟩) hQ.drew.g.lt).trans qs⟩) | (dsimp only;first | exact ⟨fun p q h=>rfl,qs⟩ | exact ⟨fun p q h=>hQ.drew.b.cells hb1 p q h,(hb1.cell (p:=⟨D,_,none⟩) hQ.drew.g.lt).trans qs⟩))
         clear hK K
         try simp only [Act.put,la,lz,ls]
         refine tk 9 ?_;refine tk 10 ?_;refine tk 11 ?_;refine tk 12 ?_;refine tk 13 ?_;refine wpAnyH_done (by kernel_rfl) ?_ _;go_wp2;go_meet;exact ⟨rfl,rfl,CJ,bQ.below (show bQ wc.drew _ _ _ _ from hrk) hb1⟩
       case rest=>
        clear hQ hrk qs;obtain ⟨rfl,rfl,hQ,hrk⟩:=hcut
        cases ov with
        | true=>
          as_aux_lemma=>
           have hS:=(hQ.set hD 16 (.bool true)).set hD 17 (.int .i64 wn);have hSS:eU w ((wc.setCell ⟨D,16,none⟩ (.bool true)).setCell ⟨D,17,none⟩ (.int .i64 wn)) [(aj r (s) A c,99),(aA ⟨x,P,d⟩,27),(aY,99)] D (aj r ({s with brk:=false,hand:=false,push:=pu,pushed:=pd,au:=M.left r s x,s0:=a3,run:=b3,f0:=f3,over:=true,bP:=wn }) A2 c2):=hS;have qA:=(hrk.setCell (p:=⟨D,16,none⟩) (fun h=>h.2 rfl) (.bool true)).setCell (p:=⟨D,17,none⟩) (fun h=>h.2 rfl) (.int .i64 wn);have o16:=hQ.g.cell (j:=16) rfl;have o17:=hQ.g.cell (j:=17) rfl;have axd:=hQ.g.frozen 16;have axk:=hQ.g.frozen 17;have hpm:M.play r s x= {s with brk:=false,hand:=false,push:=pu,pushed:=pd,au:=M.left r s x,s0:=a3,run:=b3,f0:=f3,over:=true,bP:=wn }:=HK.out;have kM:=hide hpm;clear hpm hS
           go_wp2_with (first | (refine aB 99 (.tmp 8) rfl ?_;refine ak (hSS.g) Tryz.underlying99 rfl ay rfl (.tmp 8) rfl rfl ?_) | (refine aO 99 (.tmp 4) (.tmp 98) rfl ?_;refine aF (hSS.b.get 2 rfl) (aj r ({s with brk:=false,hand:=false,push:=pu,pushed:=pd,au:=M.left r s x,s0:=a3,run:=b3,f0:=f3,over:=true,bP:=wn }) A2 c2) rfl ay (bM _ _ _ _) rfl (.tmp 4) (.tmp 98) rfl rfl rfl ?_))
           have hZ:=hSS.b.put 2 rfl (aj r ({s with brk:=false,hand:=false,push:=pu,pushed:=pd,au:=M.left r s x,s0:=a3,run:=b3,f0:=f3,over:=true,bP:=wn }) A2 c2) rfl;refine bodyPost_ret (bf (p:=4) (hZ.get 2 rfl) Tryz.underlying99 rfl ay rfl _ rfl) rfl ⟨A2,c2,?_,?_,hZ.bw⟩
           · rw [kM.out];rfl
           · rw [kM.out]
             have hg2:¬ (fun b=>w.heap.size+3≤b∧b≠D) (w.heap.size+2):=fun h=>by have h1:w.heap.size+3≤w.heap.size+2:=h.1;omega
             exact (bQ.sets hg2 _ 0 _ qA).more (fun b _ h=>Nat.le_trans (by omega) h.1)
        | false=>
          as_aux_lemma=>
           have qf:=hQ.g.cell (j:=12) rfl;have k2:=(hQ.b.ah rfl).cell (j:=2) rfl;have hk1:=HK.out;rw [if_neg (by decide)] at hk1;have Xl:=hide hk1;clear hk1
           go_upto_region 19 with (fail)
           go_cut [99] (fun v wx=>v= .bool (decide (fl≠0∧f3=r.bD))∧eU w wx [(aj r (s) A c,99),(aA ⟨x,P,d⟩,27),(aY,99)] D (aj r ({s with brk:=false,hand:=false,push:=pu,pushed:=pd,au:=M.left r s x,s0:=a3,run:=b3,f0:=f3 }) A2 c2)∧bQ wx (fun b=>w.heap.size+3≤b∧b≠D) A2 c2 (M.left r s x))
           case first=>
            as_aux_lemma=>
             rcases zq:(fl == 0) with _ | _
             · have zn:(fl != 0)=true:=by simp [bne,zq]
               have zm:¬ fl=0:=by simpa using zq
               have Hm:=hide zm;clear zm
               rcases ze:(f3 == r.bD) with _ | _
               all_goals
                go_wp2
                go_quiet (fail)
                go_wp2;go_meet;exact ⟨by rw [qC] at ze;simp [Hm.out,ze],hQ.drewN _,hrk.drewN _⟩
             · have zn:(fl != 0)=false:=by simp [bne,zq]
               have zm:fl=0:=by simpa using zq
               have Hm:=hide zm;clear zm;go_wp2
               go_quiet (fail)
               go_wp2;go_meet;exact ⟨by simp [Hm.out],hQ.drewN _,hrk.drewN _⟩
           case rest=>
            clear hQ hrk qf k2;obtain ⟨rfl,hQ,hrk⟩:=hcut;have qB:=hQ.b.size (by simp)
            simp only [List.length_cons,List.length_nil] at qB
            obtain ⟨lm,hlm⟩:∃ q,decide (fl≠0∧f3=r.bD)=q:=⟨_,rfl⟩;rw [hlm]
            cases lm with
            | true=>
              as_aux_lemma=>
               have hpm:M.play r s x=M.limit r ({s with brk:=false,hand:=false,push:=pu,pushed:=pd,au:=M.left r s x,s0:=a3,run:=b3,f0:=f3 }) 0:=by have:=Xl.out;rw [if_pos (of_decide_eq_true hlm),uD.out] at this;exact this
               have kM:=hide hpm;clear hpm hlm
               go_wp2_with (first | (refine aB 99 (.tmp 8) rfl ?_;refine ak (hQ.g) Tryz.underlying99 rfl ay rfl (.tmp 8) rfl rfl ?_) | (go_at_call 157;refine (zO (fun b=>w.heap.size+3≤b∧b≠D) r ({s with brk:=false,hand:=false,push:=pu,pushed:=pd,au:=M.left r s x,s0:=a3,run:=b3,f0:=f3 }) 0 A2 c2 _ hrk (by omega) (by show -1000000≤a3;omega) (by show a3≤1000000;omega) (by show -1000000≤s.s1;have:=hk.s1;omega) (by show s.s1≤1000000;have:=hk.s1;omega) (by show 0≤s.bI;omega) (by show s.bI≤1000000;omega)).mono ?_;rintro e w5 ⟨A4,c4,rfl,hr4,hb5⟩;have su:=hQ.call (by simp) hb5) | (refine aO 99 (.tmp 4) (.tmp 115) rfl ?_;refine aF (su.b.get 2 rfl) (aj r (M.limit r ({s with brk:=false,hand:=false,push:=pu,pushed:=pd,au:=M.left r s x,s0:=a3,run:=b3,f0:=f3 }) 0) A4 c4) rfl ay (bM _ _ _ _) rfl (.tmp 4) (.tmp 115) rfl rfl rfl ?_))
               have hZ:=su.b.put 2 rfl (aj r (M.limit r ({s with brk:=false,hand:=false,push:=pu,pushed:=pd,au:=M.left r s x,s0:=a3,run:=b3,f0:=f3 }) 0) A4 c4) rfl;refine bodyPost_ret (bf (p:=4) (hZ.get 2 rfl) Tryz.underlying99 rfl ay rfl _ rfl) rfl ⟨A4,c4,?_,?_,hZ.bw⟩
               · rw [kM.out];rfl
               · rw [kM.out]
                 have hg2:¬ (fun b=>((fun b=>w.heap.size+3≤b∧b≠D) b)∨wc.heap.size≤b) (w.heap.size+2):=fun h=>by
                  rcases h with h | h
                  · have h1:w.heap.size+3≤w.heap.size+2:=h.1
                    omega
                  · omega
                 exact (bQ.sets hg2 _ 0 _ hr4).more (fun b _ h=>by
                  rcases h with h | h
                  · exact Nat.le_trans (by omega) h.1
                  · omega)
            | false=>
              as_aux_lemma=>
               have hk2:=Xl.out;rw [if_neg (of_decide_eq_false hlm)] at hk2;have AY:=hide hk2;clear hk2 hlm
               have hg2:¬ (fun b=>w.heap.size+3≤b∧b≠D) (w.heap.size+2):=fun h=>by have h1:w.heap.size+3≤w.heap.size+2:=h.1;omega
               have k0:=(hQ.b.ah rfl).cell (j:=0) rfl
               cases gd with
               | false=>
                 as_aux_lemma=>
                  have hpm:M.play r s x=M.passed r s x ({s with brk:=false,hand:=false,push:=pu,pushed:=pd,au:=M.left r s x,s0:=a3,run:=b3,f0:=f3 }):=by have:=AY.out;rw [if_pos rfl] at this;exact this
                  have hlt:=hl.turn hc
                  have htn:0≤s.turn∧s.turn≤1:=by have:=hk.turn;omega
                  have hps:M.passed r s x ({s with brk:=false,hand:=false,push:=pu,pushed:=pd,au:=M.left r s x,s0:=a3,run:=b3,f0:=f3 })= {s with turn:=1 - s.turn,brk:=false,hand:=decide (M.iw r s x≠0∧(r.game≠M.aH∨M.iw r s x=1)),push:=pu,pushed:=pd,au:=M.left r s x,s0:=a3,run:=0,f0:=f3 }:=by unfold M.passed;rw [hlt]
                  have hfr:=Ce r s x;rw [ZC.out] at hps hfr;rw [hps] at hpm;have kM:=hide hpm;clear hpm hps hlt;have g5:=hQ.g.cell (j:=5) rfl;have gf5:=hQ.g.frozen 5;have hset:=fun hb:Bool=>hQ.set hD 5 (.bool hb);have Fz:=hide hset;clear hset
                  have Iu:∀ z1 z2 z3:Bool,z1=(fl == 1)→z2=decide (1<fl)→z3=(r.game.toList == [115,116,114,97,105,103,104,116])→decide (fl≠0∧(r.game≠M.aH∨fl=1))=(z1 || (z2 && !z3)):=by
                   rintro z1 z2 z3 rfl rfl rfl
                   rw [dn r.game [115,116,114,97,105,103,104,116],qC]
                   by_cases q1:fl=1
                   · simp [q1]
                   · by_cases q2:1<fl
                     · by_cases q3:r.game=M.aH <;> simp [q1,q2,q3] <;> omega
                     · have:fl=0:=by omega
                       simp [this]
                  have HH:=hide Iu;clear Iu
                  rcases z1:(fl == 1) with _ | _
                  · rcases z2:decide (1<fl) with _ | _
                    · have hhb:decide (fl≠0∧(r.game≠M.aH∨fl=1))=false:=by rw [HH.out _ _ _ z1.symm z2.symm rfl];rfl
                      have hS:eU w (wc.setCell ⟨D,5,none⟩ (.bool false)) [(aj r (s) A c,99),(aA ⟨x,P,d⟩,27),(aY,99)] D (aj r ({s with brk:=false,hand:=false,push:=pu,pushed:=pd,au:=M.left r s x,s0:=a3,run:=b3,f0:=f3 }) A2 c2):=Fz.out false;have qA:=hrk.setCell (p:=⟨D,5,none⟩) (fun h=>h.2 rfl) (.bool false);have LC:=hide hhb;clear hhb
                      go_wp2_with (first | (refine aB 99 (.tmp 8) rfl ?_;refine ak (hS.g) Tryz.underlying99 rfl ay rfl (.tmp 8) rfl rfl ?_) | (go_at_call 103;refine (iU r ({s with brk:=false,hand:=false,push:=pu,pushed:=pd,au:=M.left r s x,s0:=a3,run:=b3,f0:=f3 }) A2 c2 _ htn.1 htn.2).mono ?_;rintro e w5 ⟨rfl,hb5⟩;have su:=hS.call (by simp) hb5) | (refine aO 99 (.tmp 4) (.tmp 134) rfl ?_;refine aF (su.b.get 2 rfl) (aj r ({s with turn:=1 - s.turn,brk:=false,hand:=false,push:=pu,pushed:=pd,au:=M.left r s x,s0:=a3,run:=0,f0:=f3 }) A2 c2) rfl ay (bM _ _ _ _) rfl (.tmp 4) (.tmp 134) rfl rfl rfl ?_))
                      have hZ:=su.b.put 2 rfl (aj r ({s with turn:=1 - s.turn,brk:=false,hand:=false,push:=pu,pushed:=pd,au:=M.left r s x,s0:=a3,run:=0,f0:=f3 }) A2 c2) rfl;refine bodyPost_ret (bf (p:=4) (hZ.get 2 rfl) Tryz.underlying99 rfl ay rfl _ rfl) rfl ⟨A2,c2,?_,?_,hZ.bw⟩
                      · rw [kM.out,LC.out];rfl
                      · rw [kM.out];exact (bQ.sets hg2 _ 0 _ (bQ.below qA hb5)).more (fun b _ h=>Nat.le_trans (by omega) h.1)
                    · rcases z3:(r.game.toList == [115,116,114,97,105,103,104,116]) with _ | _
                      · have hhb:decide (fl≠0∧(r.game≠M.aH∨fl=1))=true:=by rw [HH.out _ _ _ z1.symm z2.symm z3.symm];rfl
                        have hS:eU w (wc.setCell ⟨D,5,none⟩ (.bool true)) [(aj r (s) A c,99),(aA ⟨x,P,d⟩,27),(aY,99)] D (aj r ({s with brk:=false,hand:=true,push:=pu,pushed:=pd,au:=M.left r s x,s0:=a3,run:=b3,f0:=f3 }) A2 c2):=Fz.out true;have qA:=hrk.setCell (p:=⟨D,5,none⟩) (fun h=>h.2 rfl) (.bool true);have LC:=hide hhb;clear hhb
                        go_wp2_with (first | (refine aB 99 (.tmp 8) rfl ?_;refine ak (hS.g) Tryz.underlying99 rfl ay rfl (.tmp 8) rfl rfl ?_) | (go_at_call 103;refine (iU r ({s with brk:=false,hand:=true,push:=pu,pushed:=pd,au:=M.left r s x,s0:=a3,run:=b3,f0:=f3 }) A2 c2 _ htn.1 htn.2).mono ?_;rintro e w5 ⟨rfl,hb5⟩;have su:=hS.call (by simp) hb5) | (refine aO 99 (.tmp 4) (.tmp 134) rfl ?_;refine aF (su.b.get 2 rfl) (aj r ({s with turn:=1 - s.turn,brk:=false,hand:=true,push:=pu,pushed:=pd,au:=M.left r s x,s0:=a3,run:=0,f0:=f3 }) A2 c2) rfl ay (bM _ _ _ _) rfl (.tmp 4) (.tmp 134) rfl rfl rfl ?_))
                        have hZ:=su.b.put 2 rfl (aj r ({s with turn:=1 - s.turn,brk:=false,hand:=true,push:=pu,pushed:=pd,au:=M.left r s x,s0:=a3,run:=0,f0:=f3 }) A2 c2) rfl;refine bodyPost_ret (bf (p:=4) (hZ.get 2 rfl) Tryz.underlying99 rfl ay rfl _ rfl) rfl ⟨A2,c2,?_,?_,hZ.bw⟩
                        · rw [kM.out,LC.out];rfl
                        · rw [kM.out];exact (bQ.sets hg2 _ 0 _ (bQ.below qA hb5)).more (fun b _ h=>Nat.le_trans (by omega) h.1)
                      · have hhb:decide (fl≠0∧(r.game≠M.aH∨fl=1))=false:=by rw [HH.out _ _ _ z1.symm z2.symm z3.symm];rfl
                        have hS:eU w (wc.setCell ⟨D,5,none⟩ (.bool false)) [(aj r (s) A c,99),(aA ⟨x,P,d⟩,27),(aY,99)] D (aj r ({s with brk:=false,hand:=false,push:=pu,pushed:=pd,au:=M.left r s x,s0:=a3,run:=b3,f0:=f3 }) A2 c2):=Fz.out false;have qA:=hrk.setCell (p:=⟨D,5,none⟩) (fun h=>h.2 rfl) (.bool false);have LC:=hide hhb;clear hhb
                        go_wp2_with (first | (refine aB 99 (.tmp 8) rfl ?_;refine ak (hS.g) Tryz.underlying99 rfl ay rfl (.tmp 8) rfl rfl ?_) | (go_at_call 103;refine (iU r ({s with brk:=false,hand:=false,push:=pu,pushed:=pd,au:=M.left r s x,s0:=a3,run:=b3,f0:=f3 }) A2 c2 _ htn.1 htn.2).mono ?_;rintro e w5 ⟨rfl,hb5⟩;have su:=hS.call (by simp) hb5) | (refine aO 99 (.tmp 4) (.tmp 134) rfl ?_;refine aF (su.b.get 2 rfl) (aj r ({s with turn:=1 - s.turn,brk:=false,hand:=false,push:=pu,pushed:=pd,au:=M.left r s x,s0:=a3,run:=0,f0:=f3 }) A2 c2) rfl ay (bM _ _ _ _) rfl (.tmp 4) (.tmp 134) rfl rfl rfl ?_))
                        have hZ:=su.b.put 2 rfl (aj r ({s with turn:=1 - s.turn,brk:=false,hand:=false,push:=pu,pushed:=pd,au:=M.left r s x,s0:=a3,run:=0,f0:=f3 }) A2 c2) rfl;refine bodyPost_ret (bf (p:=4) (hZ.get 2 rfl) Tryz.underlying99 rfl ay rfl _ rfl) rfl ⟨A2,c2,?_,?_,hZ.bw⟩
                        · rw [kM.out,LC.out];rfl
                        · rw [kM.out];exact (bQ.sets hg2 _ 0 _ (bQ.below qA hb5)).more (fun b _ h=>Nat.le_trans (by omega) h.1)
                  · have hhb:decide (fl≠0∧(r.game≠M.aH∨fl=1))=true:=by rw [HH.out _ _ _ z1.symm rfl rfl];rfl
                    have hS:eU w (wc.setCell ⟨D,5,none⟩ (.bool true)) [(aj r (s) A c,99),(aA ⟨x,P,d⟩,27),(aY,99)] D (aj r ({s with brk:=false,hand:=true,push:=pu,pushed:=pd,au:=M.left r s x,s0:=a3,run:=b3,f0:=f3 }) A2 c2):=Fz.out true;have qA:=hrk.setCell (p:=⟨D,5,none⟩) (fun h=>h.2 rfl) (.bool true);have LC:=hide hhb;clear hhb
                    go_wp2_with (first | (refine aB 99 (.tmp 8) rfl ?_;refine ak (hS.g) Tryz.underlying99 rfl ay rfl (.tmp 8) rfl rfl ?_) | (go_at_call 103;refine (iU r ({s with brk:=false,hand:=true,push:=pu,pushed:=pd,au:=M.left r s x,s0:=a3,run:=b3,f0:=f3 }) A2 c2 _ htn.1 htn.2).mono ?_;rintro e w5 ⟨rfl,hb5⟩;have su:=hS.call (by simp) hb5) | (refine aO 99 (.tmp 4) (.tmp 134) rfl ?_;refine aF (su.b.get 2 rfl) (aj r ({s with turn:=1 - s.turn,brk:=false,hand:=true,push:=pu,pushed:=pd,au:=M.left r s x,s0:=a3,run:=0,f0:=f3 }) A2 c2) rfl ay (bM _ _ _ _) rfl (.tmp 4) (.tmp 134) rfl rfl rfl ?_))
                    have hZ:=su.b.put 2 rfl (aj r ({s with turn:=1 - s.turn,brk:=false,hand:=true,push:=pu,pushed:=pd,au:=M.left r s x,s0:=a3,run:=0,f0:=f3 }) A2 c2) rfl;refine bodyPost_ret (bf (p:=4) (hZ.get 2 rfl) Tryz.underlying99 rfl ay rfl _ rfl) rfl ⟨A2,c2,?_,?_,hZ.bw⟩
                    · rw [kM.out,LC.out];rfl
                    · rw [kM.out];exact (bQ.sets hg2 _ 0 _ (bQ.below qA hb5)).more (fun b _ h=>Nat.le_trans (by omega) h.1)
               | true=>
                 as_aux_lemma=>
                  have hpm:M.play r s x=M.fB r (M.grouped r s x ({s with brk:=false,hand:=false,push:=pu,pushed:=pd,au:=M.left r s x,s0:=a3,run:=b3,f0:=f3 })):=by have:=AY.out;rw [if_neg (by decide)] at this;exact this
                  have Pm:=hide hpm;clear hpm;have xk:=(hQ.b.get 1 rfl).cell (j:=1) rfl;have xb:=(hQ.b.get 1 rfl).cell (j:=2) rfl;have kg:=(hQ.b.ah rfl).cell (j:=8) rfl;have g8:=hQ.g.cell (j:=8) rfl;have gf8:=hQ.g.frozen 8;have g9:=hQ.g.cell (j:=9) rfl;have e1:=dn r.game [101,105,103,104,116];have e2:=dn x.kind [112,108,97,121];have e3:=dn r.game [115,116,114,97,105,103,104,116];have E1:=hide e1;have E2:=hide e2;have E3:=hide e3;clear e1 e2 e3;have hsd:=M.Hf x.aT
                  rcases y8:(r.game.toList == [101,105,103,104,116]) with _ | _
                  · have Ht:¬ r.game=M.bF:=by have:=E1.out;rw [y8] at this;simpa using this.symm
                    have zK:M.grouped r s x ({s with brk:=false,hand:=false,push:=pu,pushed:=pd,au:=M.left r s x,s0:=a3,run:=b3,f0:=f3 })= {s with brk:=false,hand:=false,push:=pu,pushed:=pd,au:=M.left r s x,s0:=a3,run:=b3,f0:=f3 }:=by unfold M.grouped;rw [if_neg (fun h=>Ht h.1)]
                    have Lu:=hide zK;clear zK Ht
                    rcases zs:(r.game.toList == [115,116,114,97,105,103,104,116]) with _ | _
                    · have hns:¬ r.game=M.aH:=by have:=E3.out;rw [zs] at this;simpa using this.symm
                      have hpm:M.play r s x= {s with brk:=false,hand:=false,push:=pu,pushed:=pd,au:=M.left r s x,s0:=a3,run:=b3,f0:=f3 }:=by rw [Pm.out,Lu.out];unfold M.fB;rw [if_neg (fun h=>hns h.1)]
                      have kM:=hide hpm;have MK:=hide hns;clear hpm hns
                      go_wp2_with (first | (refine aB 99 (.tmp 8) rfl ?_;refine ak (hQ.g) Tryz.underlying99 rfl ay rfl (.tmp 8) rfl rfl ?_) | (refine aO 99 (.tmp 4) (.tmp 176) rfl ?_;refine aF (hQ.b.get 2 rfl) (aj r ({s with brk:=false,hand:=false,push:=pu,pushed:=pd,au:=M.left r s x,s0:=a3,run:=b3,f0:=f3 }) A2 c2) rfl ay (bM _ _ _ _) rfl (.tmp 4) (.tmp 176) rfl rfl rfl ?_))
                      have hZ:=hQ.b.put 2 rfl (aj r ({s with brk:=false,hand:=false,push:=pu,pushed:=pd,au:=M.left r s x,s0:=a3,run:=b3,f0:=f3 }) A2 c2) rfl;refine bodyPost_ret (bf (p:=4) (hZ.get 2 rfl) Tryz.underlying99 rfl ay rfl _ rfl) rfl ⟨A2,c2,?_,?_,hZ.bw⟩
                      · rw [kM.out];rfl
                      · rw [kM.out];exact (bQ.sets hg2 _ 0 _ hrk).more (fun b _ h=>Nat.le_trans (by omega) h.1)
                    · have hns:r.game=M.aH:=by have:=E3.out;rw [zs] at this;simpa using this.symm
                      have Hns:=hide hns;clear hns
                      by_cases hln:(M.left r s x).length≤1
                      · have d2:decide (((M.left r s x).length:Int)≤1)=true:=by rw [decide_eq_true_eq];omega
                        have hpm:M.play r s x= {s with brk:=false,hand:=false,push:=pu,pushed:=pd,au:=M.jr r,s0:=a3,run:=b3,f0:=f3,bI:=s.bI+1 }:=by rw [Pm.out,Lu.out];unfold M.fB;rw [if_pos ⟨Hns.out,hln⟩]
                        have kM:=hide hpm;clear hpm
                        go_wp2_with (first | (refine aB 99 (.tmp 8) rfl ?_;refine ak (hQ.g) Tryz.underlying99 rfl ay rfl (.tmp 8) rfl rfl ?_) | (go_at_call 158;refine (tV r ({s with brk:=false,hand:=false,push:=pu,pushed:=pd,au:=M.left r s x,s0:=a3,run:=b3,f0:=f3 }) A2 c2 _ (by show 0≤s.bI;omega) (by show s.bI≤1000000;omega)).mono ?_;rintro e w5 ⟨A4,c4,rfl,hr4,hb5⟩;have su:=hQ.call (by simp) hb5) | (refine aO 99 (.tmp 4) (.tmp 175) rfl ?_;refine aF (su.b.get 2 rfl) (aj r ({s with brk:=false,hand:=false,push:=pu,pushed:=pd,au:=M.jr r,s0:=a3,run:=b3,f0:=f3,bI:=s.bI+1 }) A4 c4) rfl ay (bM _ _ _ _) rfl (.tmp 4) (.tmp 175) rfl rfl rfl ?_))
                        have hZ:=su.b.put 2 rfl (aj r ({s with brk:=false,hand:=false,push:=pu,pushed:=pd,au:=M.jr r,s0:=a3,run:=b3,f0:=f3,bI:=s.bI+1 }) A4 c4) rfl;refine bodyPost_ret (bf (p:=4) (hZ.get 2 rfl) Tryz.underlying99 rfl ay rfl _ rfl) rfl ⟨A4,c4,?_,?_,hZ.bw⟩
                        · rw [kM.out];rfl
                        · rw [kM.out]
                          have hg3:¬ (fun b=>wc.heap.size≤b) (w.heap.size+2):=fun h=>by
                           have h:wc.heap.size≤w.heap.size+2:=h
                           omega
                          exact (bQ.sets hg3 _ 0 _ hr4).more (fun b _ h=>by omega)
                      · have d2:decide (((M.left r s x).length:Int)≤1)=false:=by rw [decide_eq_false_iff_not];omega
                        have hpm:M.play r s x= {s with brk:=false,hand:=false,push:=pu,pushed:=pd,au:=M.left r s x,s0:=a3,run:=b3,f0:=f3 }:=by rw [Pm.out,Lu.out];unfold M.fB;rw [if_neg (fun h=>hln h.2)]
                        have kM:=hide hpm;have MK:=hide hln;clear hpm hln
                        go_wp2_with (first | (refine aB 99 (.tmp 8) rfl ?_;refine ak (hQ.g) Tryz.underlying99 rfl ay rfl (.tmp 8) rfl rfl ?_) | (refine aO 99 (.tmp 4) (.tmp 176) rfl ?_;refine aF (hQ.b.get 2 rfl) (aj r ({s with brk:=false,hand:=false,push:=pu,pushed:=pd,au:=M.left r s x,s0:=a3,run:=b3,f0:=f3 }) A2 c2) rfl ay (bM _ _ _ _) rfl (.tmp 4) (.tmp 176) rfl rfl rfl ?_))
                        have hZ:=hQ.b.put 2 rfl (aj r ({s with brk:=false,hand:=false,push:=pu,pushed:=pd,au:=M.left r s x,s0:=a3,run:=b3,f0:=f3 }) A2 c2) rfl;refine bodyPost_ret (bf (p:=4) (hZ.get 2 rfl) Tryz.underlying99 rfl ay rfl _ rfl) rfl ⟨A2,c2,?_,?_,hZ.bw⟩
                        · rw [kM.out];rfl
                        · rw [kM.out];exact (bQ.sets hg2 _ 0 _ hrk).more (fun b _ h=>Nat.le_trans (by omega) h.1)
                  · have Ya:r.game=M.bF:=by have:=E1.out;rw [y8] at this;simpa using this.symm
                    have zs:(r.game.toList == [115,116,114,97,105,103,104,116])=false:=by rw [E3.out,Ya];decide
                    have hns:¬ r.game=M.aH:=by rw [Ya];decide
                    have Hgy:=hide Ya;clear Ya
                    rcases yp:(x.kind.toList == [112,108,97,121]) with _ | _
                    · have zK:M.grouped r s x ({s with brk:=false,hand:=false,push:=pu,pushed:=pd,au:=M.left r s x,s0:=a3,run:=b3,f0:=f3 })= {s with brk:=false,hand:=false,push:=pu,pushed:=pd,au:=M.left r s x,s0:=a3,run:=b3,f0:=f3 }:=by unfold M.grouped;rw [if_neg (fun h=>by have:=E2.out;rw [yp] at this;simp [h.2.1] at this)]
                      have Lu:=hide zK;clear zK
                      have hpm:M.play r s x= {s with brk:=false,hand:=false,push:=pu,pushed:=pd,au:=M.left r s x,s0:=a3,run:=b3,f0:=f3 }:=by rw [Pm.out,Lu.out];unfold M.fB;rw [if_neg (fun h=>hns h.1)]
                      have kM:=hide hpm;have MK:=hide hns;clear hpm hns
                      go_wp2_with (first | (refine aB 99 (.tmp 8) rfl ?_;refine ak (hQ.g) Tryz.underlying99 rfl ay rfl (.tmp 8) rfl rfl ?_) | (refine aO 99 (.tmp 4) (.tmp 176) rfl ?_;refine aF (hQ.b.get 2 rfl) (aj r ({s with brk:=false,hand:=false,push:=pu,pushed:=pd,au:=M.left r s x,s0:=a3,run:=b3,f0:=f3 }) A2 c2) rfl ay (bM _ _ _ _) rfl (.tmp 4) (.tmp 176) rfl rfl rfl ?_))
                      have hZ:=hQ.b.put 2 rfl (aj r ({s with brk:=false,hand:=false,push:=pu,pushed:=pd,au:=M.left r s x,s0:=a3,run:=b3,f0:=f3 }) A2 c2) rfl;refine bodyPost_ret (bf (p:=4) (hZ.get 2 rfl) Tryz.underlying99 rfl ay rfl _ rfl) rfl ⟨A2,c2,?_,?_,hZ.bw⟩
                      · rw [kM.out];rfl
                      · rw [kM.out];exact (bQ.sets hg2 _ 0 _ hrk).more (fun b _ h=>Nat.le_trans (by omega) h.1)
                    · rcases yg:(s.group == 0) with _ | _
                      · have zK:M.grouped r s x ({s with brk:=false,hand:=false,push:=pu,pushed:=pd,au:=M.left r s x,s0:=a3,run:=b3,f0:=f3 })= {s with brk:=false,hand:=false,push:=pu,pushed:=pd,au:=M.left r s x,s0:=a3,run:=b3,f0:=f3 }:=by unfold M.grouped;rw [if_neg (fun h=>by rw [qC] at yg;simp [h.2.2] at yg)]
                        have Lu:=hide zK;clear zK
                        have hpm:M.play r s x= {s with brk:=false,hand:=false,push:=pu,pushed:=pd,au:=M.left r s x,s0:=a3,run:=b3,f0:=f3 }:=by rw [Pm.out,Lu.out];unfold M.fB;rw [if_neg (fun h=>hns h.1)]
                        have kM:=hide hpm;have MK:=hide hns;clear hpm hns
                        go_wp2_with (first | (refine aB 99 (.tmp 8) rfl ?_;refine ak (hQ.g) Tryz.underlying99 rfl ay rfl (.tmp 8) rfl rfl ?_) | (refine aO 99 (.tmp 4) (.tmp 176) rfl ?_;refine aF (hQ.b.get 2 rfl) (aj r ({s with brk:=false,hand:=false,push:=pu,pushed:=pd,au:=M.left r s x,s0:=a3,run:=b3,f0:=f3 }) A2 c2) rfl ay (bM _ _ _ _) rfl (.tmp 4) (.tmp 176) rfl rfl rfl ?_))
                        have hZ:=hQ.b.put 2 rfl (aj r ({s with brk:=false,hand:=false,push:=pu,pushed:=pd,au:=M.left r s x,s0:=a3,run:=b3,f0:=f3 }) A2 c2) rfl;refine bodyPost_ret (bf (p:=4) (hZ.get 2 rfl) Tryz.underlying99 rfl ay rfl _ rfl) rfl ⟨A2,c2,?_,?_,hZ.bw⟩
                        · rw [kM.out];rfl
                        · rw [kM.out];exact (bQ.sets hg2 _ 0 _ hrk).more (fun b _ h=>Nat.le_trans (by omega) h.1)
                      · have zK:M.play r s x= {s with brk:=false,hand:=false,push:=pu,pushed:=pd,group:=M.side x.aT,au:=M.left r s x,s0:=a3,run:=b3,f0:=f3 }:=by
                         have q1:=E2.out;rw [yp] at q1
                         have q2:x.kind=M.oq:=by simpa using q1.symm
                         have q3:s.group=0:=by rw [qC] at yg;simpa using yg
                         rw [Pm.out]
                         unfold M.grouped
                         rw [if_pos ⟨Hgy.out,q2,q3⟩]
                         unfold M.fB
                         rw [if_neg (fun h=>hns h.1),uD.out]
                         rfl
                        have kM:=hide zK;have hns0:=hide hns;clear zK hns;have hS:eU w (wc.setCell ⟨D,8,none⟩ (.int .i64 (M.side x.aT))) [(aj r (s) A c,99),(aA ⟨x,P,d⟩,27),(aY,99)] D (aj r ({s with brk:=false,hand:=false,push:=pu,pushed:=pd,group:=M.side x.aT,au:=M.left r s x,s0:=a3,run:=b3,f0:=f3 }) A2 c2):=hQ.set hD 8 _;have qA:=hrk.setCell (p:=⟨D,8,none⟩) (fun h=>h.2 rfl) (.int .i64 (M.side x.aT))
                        go_wp2_with (first | (go_at_call 142;refine (lW _ _).mono ?_;rintro e eY ⟨rfl,rfl⟩) | (refine aB 99 (.tmp 8) rfl ?_;refine ak (hS.g) Tryz.underlying99 rfl ay rfl (.tmp 8) rfl rfl ?_) | (refine aO 99 (.tmp 4) (.tmp 176) rfl ?_;refine aF (hS.b.get 2 rfl) (aj r ({s with brk:=false,hand:=false,push:=pu,pushed:=pd,group:=M.side x.aT,au:=M.left r s x,s0:=a3,run:=b3,f0:=f3 }) A2 c2) rfl ay (bM _ _ _ _) rfl (.tmp 4) (.tmp 176) rfl rfl rfl ?_))
                        have hZ:=hS.b.put 2 rfl (aj r ({s with brk:=false,hand:=false,push:=pu,pushed:=pd,group:=M.side x.aT,au:=M.left r s x,s0:=a3,run:=b3,f0:=f3 }) A2 c2) rfl;refine bodyPost_ret (bf (p:=4) (hZ.get 2 rfl) Tryz.underlying99 rfl ay rfl _ rfl) rfl ⟨A2,c2,?_,?_,hZ.bw⟩
                        · rw [kM.out];rfl
                        · rw [kM.out];exact (bQ.sets hg2 _ 0 _ qA).more (fun b _ h=>Nat.le_trans (by omega) h.1)
end Go.Proofs.YtcjglfbpjkdgiaaGreatDoor
