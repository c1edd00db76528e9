/- Parts of the proofs about chapter 5 (pool), joined by program. -/
import Derived.Test.YtelpepbpdojikaaGreatDoorKg10
set_option maxHeartbeats 12000000
set_option maxRecDepth 100000
set_option linter.unusedVariables false
set_option linter.unusedSimpArgs false
namespace Go.Proofs.YtelpepbpdojikaaGreatDoor
open Go.RowKit
theorem Qi (S:Nat→Prop) (n:Int) (r:M.Rules) (s:M.State) (x:M.aI) (A P:Option Addr) (c d:Nat) (w:World) (hp:bD w S A c s.ay) (hpp:jl w S P d x.aA) (hck:M.cZ x=0) (hr:M.aH r=0) (hk:M.Ok r n s) (hn:0≤n∧n≤500000) (hpl:x.aC=0) (hl:M.Lawful r s x) (hc:x.kind≠M.aT):
 Calls Tryz.prog 144 #[dH r s A c,iO x P d] w fun e w'=>∃ A' c',e= .returned (dH r (M.play r s x) A' c')∧bD w' (fun b=>w.heap.size≤b) A' c' (M.play r s x).ay∧Below w.heap.size w w':=by
 obtain ⟨hx,xY,_⟩:=wL hck
 have hsx:=M.uw hck
 have CG:=hsx.objs
 have hpos:∀ p∈x.aA,0≤p.aJ:=fun p h=>(xY p h).1.1
 have hg:=hk.group
 have hF:=fun W h h'=>wO S r s x A P c d W h h' hx hpos hr hg
 have hG:=fun W h h'=>zo S r s x A P c d W h h' hx hpos hr hg
 have hL:=fun W h h'=>Ef S r s x A P c d (M.good r s x) W h h' hpos
 rw [← Bz hr] at hL
 obtain ⟨fl,hfl⟩:∃ q,M.iW r s x=q:=⟨_,rfl⟩
 obtain ⟨gd,hgd⟩:∃ q,M.good r s x=q:=⟨_,rfl⟩
 rw [hfl] at hF
 rw [hgd] at hG hL
 obtain ⟨pu,hpu⟩:∃ q,decide (r.game=M.bM∧x.kind=M.dh)=q:=⟨_,rfl⟩
 obtain ⟨pd,Pg⟩:∃ q,decide (x.kind=M.eu)=q:=⟨_,rfl⟩
 have hcm:M.calm r s x= {s with brk:=false,hand:=false,push:=pu,pushed:=pd }:=by unfold M.calm;rw [hpu,Pg]
 have hC:=fun W h=>yV S r s x A P c d W h
 simp only [hcm] at hC
 have HC:=hide hC
 have HCM:=hide hcm
 clear hC hcm hpu Pg
 have HF:=hide hF
 have HG:=hide hG
 have HL:=hide hL
 have Pz:=hide hfl
 have JG:=hide hgd
 clear hF hG hL hfl hgd
 have Dw:=hide hpl
 clear hpl
 go_enter Tryz.func144,Tryz.ntmps144
 go_upto_region 0 with (fail)
 go_cut [2,3,4] (fun v2 v3 v4 wx=>v2=ptr w.heap.size∧v3=ptr (w.heap.size+1)∧v4=ptr (w.heap.size+2)∧bU w wx [(ah r (s) A c,127),(au ⟨x,P,d⟩,66),(aK,127)])
 case first=>
  as_aux_lemma=>
   go_wp2
   go_meet
   exact ⟨rfl,rfl,rfl,((((bU.nil w).new (by simp) (ah r (s) A c) _).new (by simp) (au ⟨x,P,d⟩) _).new (by simp) (aK) _)⟩
 case rest=>
  obtain ⟨rfl,rfl,rfl,hB⟩:=hcut
  go_upto_region 1 with (fail)
  go_cut [5,6] (fun v5 v6 wx=>v5= .int .i64 fl∧v6= .bool gd∧bU w wx [(ah r (s) A c,127),(au ⟨x,P,d⟩,66),(aK,127)])
  case first=>
   as_aux_lemma=>
    have Fz:∀ W:World,(fun w':World=>∀ p q,p<w.heap.size+3→w'.cell? ⟨p,q,none⟩=wc.cell? ⟨p,q,none⟩) W→W.rangeAt w.heap.size 0 (ah r (s) A c):=fun W h j v hj=>by rw [h _ _ (by omega)];exact (hB.bf rfl).range j v hj
    have GK:∀ W:World,(fun w':World=>∀ p q,p<w.heap.size+3→w'.cell? ⟨p,q,none⟩=wc.cell? ⟨p,q,none⟩) W→W.rangeAt (w.heap.size+1) 0 (au ⟨x,P,d⟩):=fun W h j v hj=>by rw [h _ _ (by omega)];exact (hB.get 1 rfl).range j v hj
    refine wp_region_held_drew (S:=(fun w':World=>∀ p q,p<w.heap.size+3→w'.cell? ⟨p,q,none⟩=wc.cell? ⟨p,q,none⟩)) (by kernel_rfl) ?jw (fun hHeld=>?_)
    case jw=>first | exact fun p q h=>rfl | exact fun p q h=>hB.drew.cells hb1 p q h | exact fun p q h=>(hB1.cells hb2 p q h).trans (hB.drew.cells hb1 p q h)
    refine wpAnyH_take (i:=0) (oi:=_) (v:=_) (ga rfl) (by kernel_rfl) (by kernel_rfl) (by kernel_rfl) (fun _ _ _ h=>h) (yieldsIf_load_mid (by rfl) _ _ (by rfl) _ _ (by rfl) _ _ Fz Tryz.underlying127 rfl (by kernel_rfl)) (by assumption) ?_
    try simp only [Act.put,la,lz,ls]
    refine wpAnyH_take (i:=1) (oi:=_) (v:=_) (ga rfl) (by kernel_rfl) (by kernel_rfl) (by kernel_rfl) (fun _ _ _ h=>h) (yieldsIf_load_mid (by rfl) _ _ (by rfl) _ _ (by rfl) _ _ GK Tryz.underlying66 rfl (by kernel_rfl)) (by assumption) ?_
    try simp only [Act.put,la,lz,ls]
    refine wpAnyH_take (i:=3) (oi:=_) (v:=_) (ga rfl) (by kernel_rfl) (by kernel_rfl) (by kernel_rfl) (fun _ _ _ h=>h) (yieldsIf_load_mid (by rfl) _ _ (by rfl) _ _ (by rfl) _ _ Fz Tryz.underlying127 rfl (by kernel_rfl)) (by assumption) ?_
    try simp only [Act.put,la,lz,ls]
    refine wpAnyH_take (i:=4) (oi:=_) (v:=_) (ga rfl) (by kernel_rfl) (by kernel_rfl) (by kernel_rfl) (fun _ _ _ h=>h) (yieldsIf_load_mid (by rfl) _ _ (by rfl) _ _ (by rfl) _ _ GK Tryz.underlying66 rfl (by kernel_rfl)) (by assumption) ?_
    try simp only [Act.put,la,lz,ls]
    refine tr 2 fun K hK=>?_
    go_simp
    (first | (go_at_call 66;refine (HF.out _ (hp.below hB.drew.bw) (hpp.below hB.drew.bw)).mono ?_;rintro e w1 ⟨rfl,hb1⟩;have hB1:=hB.drew.call (by simp) hb1) | (go_at_call 69;refine (HG.out _ (hp.below hB1.bw) (hpp.below hB1.bw)).mono ?_;rintro e w2 ⟨rfl,hb2⟩;have hB2:=hB1.call (by simp) hb2))
    refine hK.out _ _ ?Tj (fun hHeld=>?_)
    case Tj=>(first | (first | exact fun p q h=>rfl | exact fun p q h=>hB.drew.cells hb1 p q h | exact fun p q h=>(hB1.cells hb2 p q h).trans (hB.drew.cells hb1 p q h)) | (dsimp only;first | exact fun p q h=>rfl | exact fun p q h=>hB.drew.cells hb1 p q h | exact fun p q h=>(hB1.cells hb2 p q h).trans (hB.drew.cells hb1 p q h)))
    clear hK K
    try simp only [Act.put,la,lz,ls]
    refine tr 5 fun K hK=>?_
    go_simp
    (first | (go_at_call 66;refine (HF.out _ (hp.below hB.drew.bw) (hpp.below hB.drew.bw)).mono ?_;rintro e w1 ⟨rfl,hb1⟩;have hB1:=hB.drew.call (by simp) hb1) | (go_at_call 69;refine (HG.out _ (hp.below hB1.bw) (hpp.below hB1.bw)).mono ?_;rintro e w2 ⟨rfl,hb2⟩;have hB2:=hB1.call (by simp) hb2))
    refine hK.out _ _ ?LU (fun hHeld=>?_)
    case LU=>(first | (first | exact fun p q h=>rfl | exact fun p q h=>hB.drew.cells hb1 p q h | exact fun p q h=>(hB1.cells hb2 p q h).trans (hB.drew.cells hb1 p q h)) | (dsimp only;first | exact fun p q h=>rfl | exact fun p q h=>hB.drew.cells hb1 p q h | exact fun p q h=>(hB1.cells hb2 p q h).trans (hB.drew.cells hb1 p q h)))
    clear hK K
    try simp only [Act.put,la,lz,ls]
    refine tk 6 ?_
    refine tk 7 ?_
    refine wpAnyH_done (by kernel_rfl) ?_ _
    go_wp2
    go_meet
    exact ⟨rfl,rfl,hB2⟩
  case rest=>
   obtain ⟨rfl,rfl,hB⟩:=hcut
   have yF:=hB.get 1 rfl
   have x0:=yF.cell (j:=0) rfl
   rw [Dw.out] at x0
   go_upto_region 3 with (fail)
   go_cut [8] (fun v8 wx=>∃ D A1 c1,v8=ptr D∧w.heap.size+3≤D∧dJ w wx [(ah r (s) A c,127),(au ⟨x,P,d⟩,66),(aK,127)] D (ah r ({s with brk:=false,hand:=false,push:=pu,pushed:=pd }) A1 c1))
   case first=>
    as_aux_lemma=>
     go_wp2_with (first | (refine aN 127 (.tmp 2) rfl ?_;refine aG (hB.bf rfl) Tryz.underlying127 rfl ak rfl (.tmp 2) rfl rfl ?_) | (refine aN 66 (.tmp 3) rfl ?_;refine aG (hB.get 1 rfl) Tryz.underlying66 rfl aV rfl (.tmp 3) rfl rfl ?_) | (go_at_call 142;refine (HC.out _ (hp.below hB.bw)).mono ?_;rintro e w1 ⟨A1,c1,rfl,hr1,hb1⟩;have hB1:=hB.call (by simp) hb1;have hB2:=hB1.alloc (by simp) (.cells aK.toArray 127);have hG1:=Held.new w1 aK 127) | (refine aO 127 (.tmp 8) (.tmp 22) rfl ?_;refine aF hG1 (ah r ({s with brk:=false,hand:=false,push:=pu,pushed:=pd }) A1 c1) rfl ak (aX _ _ _ _) rfl (.tmp 8) (.tmp 22) rfl rfl rfl ?_))
     go_meet
     have hsz:=hB1.size (by simp)
     simp only [List.length_cons,List.length_nil] at hsz
     exact ⟨w1.heap.size,A1,c1,rfl,hsz,hB2.PS hsz _ 0,hG1.whole _ rfl⟩
   case rest=>
    obtain ⟨D,A1,c1,rfl,hD,hQ⟩:=hcut
    clear hB yF x0
    go_upto_region 4 with (fail)
    go_cut [] (fun wx=>∃ A2 c2,dJ w wx [(ah r (s) A c,127),(au ⟨x,P,d⟩,66),(aK,127)] D (ah r ({s with brk:=false,hand:=false,push:=pu,pushed:=pd,ay:=M.left r s x }) A2 c2)∧bD wx (fun b=>w.heap.size+3≤b∧b≠D) A2 c2 (M.left r s x))
    case first=>
     as_aux_lemma=>
      go_wp2_with (first | (refine aN 127 (.tmp 2) rfl ?_;refine aG (hQ.b.bf rfl) Tryz.underlying127 rfl ak rfl (.tmp 2) rfl rfl ?_) | (refine aN 66 (.tmp 3) rfl ?_;refine aG (hQ.b.get 1 rfl) Tryz.underlying66 rfl aV rfl (.tmp 3) rfl rfl ?_) | (go_at_call 163;refine (HL.out _ (hp.below hQ.b.bw) (hpp.below hQ.b.bw)).mono ?_;rintro e w1 ⟨A2,c2,rfl,hr1,hb1⟩;have zx:=hQ.call (by simp) hb1;have q9:=zx.g.cell (j:=9) rfl;have Un:=zx.g.frozen 9))
      go_meet
      have hsz:=hQ.b.size (by simp)
      have hDl:=hQ.g.lt
      simp only [List.length_cons,List.length_nil] at hsz
      exact ⟨A2,c2,zx.set hD 9 _,(hr1.more (fun b _ h=>⟨by omega,by omega⟩)).setCell (fun h=>h.2 rfl) _⟩
    case rest=>
     obtain ⟨A2,c2,hQ,hrk⟩:=hcut
     have qs:=hQ.g.cell (j:=10) rfl
     have qf:=hQ.g.cell (j:=12) rfl
     have qr:=hQ.g.cell (j:=14) rfl
     have hb0:=hk.s0
     have hb1:=hk.run
     have hb2:=hk.f0
     have hb3:=hk.aZ
     go_upto_if 29 with (fail)
     go_cut [] (fun wx=>dJ w wx [(ah r (s) A c,127),(au ⟨x,P,d⟩,66),(aK,127)] D (ah r ({s with brk:=false,hand:=false,push:=pu,pushed:=pd,ay:=M.left r s x,s0:=(if gd=true then s.s0+(M.objects x).length else s.s0),run:=(if gd=true then s.run+(M.objects x).length else s.run) }) A2 c2)∧bD wx (fun b=>w.heap.size+3≤b∧b≠D) A2 c2 (M.left r s x))
     case first=>
      as_aux_lemma=>
       rcases gd with _ | _
       · go_wp2
         go_meet
         exact ⟨hQ,hrk⟩
       · go_wp2_with (first | (refine aN 66 (.tmp 3) rfl ?_;refine aG (hQ.b.get 1 rfl) Tryz.underlying66 rfl aV rfl (.tmp 3) rfl rfl ?_) | (go_at_call 70;refine (jC S x P d _ (hpp.below hQ.b.bw) hpos).mono ?_;rintro e w1 ⟨A3,c3,rfl,hr3,hb1⟩;have zx:=hQ.call (by simp) hb1;have Qc:=hrk.below hb1;have u10:=zx.g.cell (j:=10) rfl;have Ym:=zx.g.frozen 10;have u14:=zx.g.cell (j:=14) rfl;have VB:=zx.g.frozen 14))
         go_meet
         exact ⟨(zx.set hD 10 _).set hD 14 _,(Qc.setCell (fun h=>h.2 rfl) _).setCell (fun h=>h.2 rfl) _⟩
     case rest=>
      clear hQ hrk qs qf qr
      obtain ⟨hQ,hrk⟩:=hcut
      obtain ⟨a2,ha2⟩:∃ q,(if gd=true then s.s0+(M.objects x).length else s.s0)=q:=⟨_,rfl⟩
      obtain ⟨b2,hb2'⟩:∃ q,(if gd=true then s.run+(M.objects x).length else s.run)=q:=⟨_,rfl⟩
      rw [ha2,hb2'] at hQ
      have Yo: -500000≤a2∧a2≤500016:=by rw [← ha2];split <;> omega
      have Yq:0≤b2∧b2≤500016:=by rw [← hb2'];split <;> omega
      have HA2:=hide ha2
      have HB2:=hide hb2'
      clear ha2 hb2'
      have qs:=hQ.g.cell (j:=10) rfl
      have qf:=hQ.g.cell (j:=12) rfl
      have qr:=hQ.g.cell (j:=14) rfl
      have zs:=hQ.g.frozen 10
      have zf:=hQ.g.frozen 12
      have zr:=hQ.g.frozen 14
      have k0:=(hQ.b.bf rfl).cell (j:=0) rfl
      go_upto_if 51 with (fail)
      go_cut [] (fun wx=>dJ w wx [(ah r (s) A c,127),(au ⟨x,P,d⟩,66),(aK,127)] D (ah r ({s with brk:=false,hand:=false,push:=pu,pushed:=pd,ay:=M.left r s x,s0:=(if fl=0 then a2 else if r.game=M.aB then a2 - 1 else a2),run:=(if fl=0 then b2 else 0),f0:=(if fl=0 then 0 else s.f0+1) }) A2 c2)∧bD wx (fun b=>w.heap.size+3≤b∧b≠D) A2 c2 (M.left r s x))
      case first=>
       as_aux_lemma=>
        rcases zq:(fl == 0) with _ | _
        · have zn:¬ fl=0:=by simpa using zq
          have Hn:=hide zn
          clear zn
          rcases zg:(r.game.toList == [115,116,114,97,105,103,104,116]) with _ | _
          · have NJ:¬ r.game=M.aB:=by rw [bJ r.game [115,116,114,97,105,103,104,116]] at zg;simpa using zg
            have PI:=hide NJ
            clear NJ
            go_wp2
            go_meet
            rw [if_neg Hn.out,if_neg Hn.out,if_neg Hn.out,if_neg PI.out]
            exact ⟨(hQ.set hD 12 _).set hD 14 _,(hrk.setCell (fun h=>h.2 rfl) _).setCell (fun h=>h.2 rfl) _⟩
          · have NJ:r.game=M.aB:=by rw [bJ r.game [115,116,114,97,105,103,104,116]] at zg;simpa using zg
            have PI:=hide NJ
            clear NJ
            go_wp2
            go_meet
            rw [if_neg Hn.out,if_neg Hn.out,if_neg Hn.out,if_pos PI.out]
            exact ⟨((hQ.set hD 12 _).set hD 14 _).set hD 10 _,((hrk.setCell (fun h=>h.2 rfl) _).setCell (fun h=>h.2 rfl) _).setCell (fun h=>h.2 rfl) _⟩
        · have zn:fl=0:=by simpa using zq
          have Hn:=hide zn
          clear zn
          go_wp2
          go_meet
          rw [if_pos Hn.out,if_pos Hn.out,if_pos Hn.out]
          exact ⟨hQ.set hD 12 _,hrk.setCell (fun h=>h.2 rfl) _⟩
      case rest=>
       clear hQ hrk qs qf qr zs zf zr k0
       obtain ⟨hQ,hrk⟩:=hcut
       obtain ⟨a3,Ku⟩:∃ q,(if fl=0 then a2 else if r.game=M.aB then a2 - 1 else a2)=q:=⟨_,rfl⟩
       obtain ⟨b3,Aw⟩:∃ q,(if fl=0 then b2 else 0)=q:=⟨_,rfl⟩
       obtain ⟨f3,hf3⟩:∃ q,(if fl=0 then 0 else s.f0+1)=q:=⟨_,rfl⟩
       rw [Ku,Aw,hf3] at hQ
       have Yp: -500001≤a3∧a3≤500016:=by rw [← Ku];split <;> first | omega | (split <;> omega)
       have Yr:0≤f3∧f3≤500001:=by rw [← hf3];split <;> omega
       have hct:M.counted r s x= {s with brk:=false,hand:=false,push:=pu,pushed:=pd,ay:=M.left r s x,s0:=a3,run:=b3,f0:=f3 }:=by
        have e1:=HA2.out
        have e2:=HB2.out
        rw [M.jm,HCM.out]
        unfold M.sc M.fc M.rc
        simp only [Dw.out,Pz.out,JG.out,if_true]
        rw [← Ku, ← Aw, ← hf3, ← e1, ← e2]
       have Px:=hide hct
       clear Ku Aw hf3 hct
       have hpl2:=Dw.out
       have hkey:=BF (r:=r) (s:=s) (x:=x) hl hsx hc hr
       have Kw:(M.counted r s x).score x.aC=a3:=by rw [Px.out,Dw.out];rfl
       have Kv:(M.counted r s x).jZ x.aC=f3:=by rw [Px.out,Dw.out];rfl
       rw [Kw,Kv,Pz.out,JG.out,Px.out] at hkey
       obtain ⟨wn,hwn⟩:∃ q,(Ae r s x gd a3).1=q:=⟨_,rfl⟩
       obtain ⟨ov,hov⟩:∃ q,(Ae r s x gd a3).2=q:=⟨_,rfl⟩
       rw [hwn,hov] at hkey
       have P8:=fun W h h'=>Af S r s x A P c d gd a3 W h h' hpos hr hg (by omega) (by omega)
       rw [hwn,hov] at P8
       have HW:=hide P8
       have HK:=hide hkey
       clear P8 hkey hwn hov Kw Kv hpl2
       have qs:=hQ.g.cell (j:=10) rfl
       go_upto_region 15 with (fail)
       go_cut [10,11] (fun v10 v11 wx=>v10= .int .i64 wn∧v11= .bool ov∧dJ w wx [(ah r (s) A c,127),(au ⟨x,P,d⟩,66),(aK,127)] D (ah r ({s with brk:=false,hand:=false,push:=pu,pushed:=pd,ay:=M.left r s x,s0:=a3,run:=b3,f0:=f3 }) A2 c2)∧bD wx (fun b=>w.heap.size+3≤b∧b≠D) A2 c2 (M.left r s x))
       case first=>
        as_aux_lemma=>
         have Fz:∀ W:World,(fun w':World=>(∀ p q,p<w.heap.size+3→w'.cell? ⟨p,q,none⟩=wc.cell? ⟨p,q,none⟩)∧w'.cell? ⟨D,10,none⟩=some (.int .i64 a3)) W→W.rangeAt w.heap.size 0 (ah r (s) A c):=fun W h j v hj=>by rw [h.1 _ _ (by omega)];exact (hQ.b.bf rfl).range j v hj
         have GK:∀ W:World,(fun w':World=>(∀ p q,p<w.heap.size+3→w'.cell? ⟨p,q,none⟩=wc.cell? ⟨p,q,none⟩)∧w'.cell? ⟨D,10,none⟩=some (.int .i64 a3)) W→W.rangeAt (w.heap.size+1) 0 (au ⟨x,P,d⟩):=fun W h j v hj=>by rw [h.1 _ _ (by omega)];exact (hQ.b.get 1 rfl).range j v hj
         refine wp_region_held_drew (S:=(fun w':World=>(∀ p q,p<w.heap.size+3→w'.cell? ⟨p,q,none⟩=wc.cell? ⟨p,q,none⟩)∧w'.cell? ⟨D,10,none⟩=some (.int .i64 a3))) (by kernel_rfl) ?lJ (fun hHeld=>?_)
         case lJ=>first | exact ⟨fun p q h=>rfl,qs⟩ | exact ⟨fun p q h=>hQ.drew.b.cells hb1 p q h,(hb1.cell (p:=⟨D,_,none⟩) hQ.drew.g.lt).trans qs⟩
         refine wpAnyH_take (i:=0) (oi:=_) (v:=_) (ga rfl) (by kernel_rfl) (by kernel_rfl) (by kernel_rfl) (fun _ _ _ h=>h) (yieldsIf_load_mid (by rfl) _ _ (by rfl) _ _ (by rfl) _ _ Fz Tryz.underlying127 rfl (by kernel_rfl)) (by assumption) ?_
         try simp only [Act.put,la,lz,ls]
         refine wpAnyH_take (i:=1) (oi:=_) (v:=_) (ga rfl) (by kernel_rfl) (by kernel_rfl) (by kernel_rfl) (fun _ _ _ h=>h) (yieldsIf_load_mid (by rfl) _ _ (by rfl) _ _ (by rfl) _ _ GK Tryz.underlying66 rfl (by kernel_rfl)) (by assumption) ?_
         try simp only [Act.put,la,lz,ls]
         refine tk 2 ?_
         refine tk 3 ?_
         refine tk 4 ?_
         refine tk 5 ?_
         refine tk 6 ?_
         refine tk 7 ?_
         refine tr 8 fun K hK=>?_
         go_simp
         (go_at_call 164;refine (HW.out _ (hp.below hQ.drew.b.bw) (hpp.below hQ.drew.b.bw)).mono ?_;rintro e w1 ⟨rfl,hb1⟩;have zx:=hQ.drew.call (by simp) hb1)
         refine hK.out _ _ ?TA (fun hHeld=>?_)
         case TA=>(first | (first | exact ⟨fun p q h=>rfl,qs⟩ | exact ⟨fun p q h=>hQ.drew.b.cells hb1 p q h,(hb1.cell (p:=⟨D,_,none⟩) hQ.drew.g.lt).trans qs⟩) | (dsimp only;first | exact ⟨fun p q h=>rfl,qs⟩ | exact ⟨fun p q h=>hQ.drew.b.cells hb1 p q h,(hb1.cell (p:=⟨D,_,none⟩) hQ.drew.g.lt).trans qs⟩))
         clear hK K
         try simp only [Act.put,la,lz,ls]
         refine tk 9 ?_
         refine tk 10 ?_
         refine tk 11 ?_
         refine tk 12 ?_
         refine tk 13 ?_
         refine wpAnyH_done (by kernel_rfl) ?_ _
         go_wp2
         go_meet
         exact ⟨rfl,rfl,zx,bD.below (show bD wc.drew _ _ _ _ from hrk) hb1⟩
       case rest=>
        clear hQ hrk qs
        obtain ⟨rfl,rfl,hQ,hrk⟩:=hcut
        cases ov with
        | true=>
          as_aux_lemma=>
           have hS:=(hQ.set hD 16 (.bool true)).set hD 17 (.int .i64 wn)
           have hSS:dJ w ((wc.setCell ⟨D,16,none⟩ (.bool true)).setCell ⟨D,17,none⟩ (.int .i64 wn)) [(ah r (s) A c,127),(au ⟨x,P,d⟩,66),(aK,127)] D (ah r ({s with brk:=false,hand:=false,push:=pu,pushed:=pd,ay:=M.left r s x,s0:=a3,run:=b3,f0:=f3,over:=true,bC:=wn }) A2 c2):=hS
           have rM:=(hrk.setCell (p:=⟨D,16,none⟩) (fun h=>h.2 rfl) (.bool true)).setCell (p:=⟨D,17,none⟩) (fun h=>h.2 rfl) (.int .i64 wn)
           have o16:=hQ.g.cell (j:=16) rfl
           have Yi:=hQ.g.cell (j:=17) rfl
           have Vx:=hQ.g.frozen 16
           have Vy:=hQ.g.frozen 17
           have hpm:M.play r s x= {s with brk:=false,hand:=false,push:=pu,pushed:=pd,ay:=M.left r s x,s0:=a3,run:=b3,f0:=f3,over:=true,bC:=wn }:=HK.out
           have kM:=hide hpm
           clear hpm hS
           go_wp2_with (first | (refine aN 127 (.tmp 8) rfl ?_;refine aG (hSS.g) Tryz.underlying127 rfl ak rfl (.tmp 8) rfl rfl ?_) | (refine aO 127 (.tmp 4) (.tmp 98) rfl ?_;refine aF (hSS.b.get 2 rfl) (ah r ({s with brk:=false,hand:=false,push:=pu,pushed:=pd,ay:=M.left r s x,s0:=a3,run:=b3,f0:=f3,over:=true,bC:=wn }) A2 c2) rfl ak (aX _ _ _ _) rfl (.tmp 4) (.tmp 98) rfl rfl rfl ?_))
           have hZ:=hSS.b.put 2 rfl (ah r ({s with brk:=false,hand:=false,push:=pu,pushed:=pd,ay:=M.left r s x,s0:=a3,run:=b3,f0:=f3,over:=true,bC:=wn }) A2 c2) rfl
           refine bodyPost_ret (bP (p:=4) (hZ.get 2 rfl) Tryz.underlying127 rfl ak rfl _ rfl) rfl ⟨A2,c2,?_,?_,hZ.bw⟩
           · rw [kM.out];rfl
           · rw [kM.out]
             have hg2:¬ (fun b=>w.heap.size+3≤b∧b≠D) (w.heap.size+2):=fun h=>by have h1:w.heap.size+3≤w.heap.size+2:=h.1;omega
             exact (bD.sets hg2 _ 0 _ rM).more (fun b _ h=>Nat.le_trans (by omega) h.1)
        | false=>
          as_aux_lemma=>
           have qf:=hQ.g.cell (j:=12) rfl
           have k2:=(hQ.b.bf rfl).cell (j:=2) rfl
           have hk1:=HK.out
           rw [if_neg (by decide)] at hk1
           have Q9:=hide hk1
           clear hk1
           go_upto_region 19 with (fail)
           go_cut [99] (fun v wx=>v= .bool (decide (fl≠0∧f3=r.aY))∧dJ w wx [(ah r (s) A c,127),(au ⟨x,P,d⟩,66),(aK,127)] D (ah r ({s with brk:=false,hand:=false,push:=pu,pushed:=pd,ay:=M.left r s x,s0:=a3,run:=b3,f0:=f3 }) A2 c2)∧bD wx (fun b=>w.heap.size+3≤b∧b≠D) A2 c2 (M.left r s x))
           case first=>
            as_aux_lemma=>
             rcases zq:(fl == 0) with _ | _
             · have zn:(fl != 0)=true:=by simp [bne,zq]
               have zm:¬ fl=0:=by simpa using zq
               have Hm:=hide zm
               clear zm
               rcases ze:(f3 == r.aY) with _ | _
               all_goals
                go_wp2
                go_quiet (fail)
                go_wp2
                go_meet
                exact ⟨by rw [rO] at ze;simp [Hm.out,ze],hQ.drewN _,hrk.drewN _⟩
             · have zn:(fl != 0)=false:=by simp [bne,zq]
               have zm:fl=0:=by simpa using zq
               have Hm:=hide zm
               clear zm
               go_wp2
               go_quiet (fail)
               go_wp2
               go_meet
               exact ⟨by simp [Hm.out],hQ.drewN _,hrk.drewN _⟩
           case rest=>
            clear hQ hrk qf k2
            obtain ⟨rfl,hQ,hrk⟩:=hcut
            have xA:=hQ.b.size (by simp)
            simp only [List.length_cons,List.length_nil] at xA
            obtain ⟨lm,hlm⟩:∃ q,decide (fl≠0∧f3=r.aY)=q:=⟨_,rfl⟩
            rw [hlm]
            cases lm with
            | true=>
              as_aux_lemma=>
               have hpm:M.play r s x=M.limit r ({s with brk:=false,hand:=false,push:=pu,pushed:=pd,ay:=M.left r s x,s0:=a3,run:=b3,f0:=f3 }) 0:=by have:=Q9.out;rw [if_pos (of_decide_eq_true hlm),Dw.out] at this;exact this
               have kM:=hide hpm
               clear hpm hlm
               go_wp2_with (first | (refine aN 127 (.tmp 8) rfl ?_;refine aG (hQ.g) Tryz.underlying127 rfl ak rfl (.tmp 8) rfl rfl ?_) | (go_at_call 165;refine (yc (fun b=>w.heap.size+3≤b∧b≠D) r ({s with brk:=false,hand:=false,push:=pu,pushed:=pd,ay:=M.left r s x,s0:=a3,run:=b3,f0:=f3 }) 0 A2 c2 _ hrk (by omega) (by show -1000000≤a3;omega) (by show a3≤1000000;omega) (by show -1000000≤s.s1;have:=hk.s1;omega) (by show s.s1≤1000000;have:=hk.s1;omega) (by show 0≤s.aZ;omega) (by show s.aZ≤1000000;omega)).mono ?_;rintro e w5 ⟨A4,c4,rfl,hr4,hb5⟩;have sU:=hQ.call (by simp) hb5) | (refine aO 127 (.tmp 4) (.tmp 115) rfl ?_;refine aF (sU.b.get 2 rfl) (ah r (M.limit r ({s with brk:=false,hand:=false,push:=pu,pushed:=pd,ay:=M.left r s x,s0:=a3,run:=b3,f0:=f3 }) 0) A4 c4) rfl ak (aX _ _ _ _) rfl (.tmp 4) (.tmp 115) rfl rfl rfl ?_))
               have hZ:=sU.b.put 2 rfl (ah r (M.limit r ({s with brk:=false,hand:=false,push:=pu,pushed:=pd,ay:=M.left r s x,s0:=a3,run:=b3,f0:=f3 }) 0) A4 c4) rfl
               refine bodyPost_ret (bP (p:=4) (hZ.get 2 rfl) Tryz.underlying127 rfl ak rfl _ rfl) rfl ⟨A4,c4,?_,?_,hZ.bw⟩
               · rw [kM.out];rfl
               · rw [kM.out]
                 have hg2:¬ (fun b=>((fun b=>w.heap.size+3≤b∧b≠D) b)∨wc.heap.size≤b) (w.heap.size+2):=fun h=>by
                  rcases h with h | h
                  · have h1:w.heap.size+3≤w.heap.size+2:=h.1
                    omega
                  · omega
                 exact (bD.sets hg2 _ 0 _ hr4).more (fun b _ h=>by
                  rcases h with h | h
                  · exact Nat.le_trans (by omega) h.1
                  · omega)
            | false=>
              as_aux_lemma=>
               have hk2:=Q9.out
               rw [if_neg (of_decide_eq_false hlm)] at hk2
               have PD:=hide hk2
               clear hk2 hlm
               have hg2:¬ (fun b=>w.heap.size+3≤b∧b≠D) (w.heap.size+2):=fun h=>by have h1:w.heap.size+3≤w.heap.size+2:=h.1;omega
               have k0:=(hQ.b.bf rfl).cell (j:=0) rfl
               cases gd with
               | false=>
                 as_aux_lemma=>
                  have hpm:M.play r s x=M.passed r s x ({s with brk:=false,hand:=false,push:=pu,pushed:=pd,ay:=M.left r s x,s0:=a3,run:=b3,f0:=f3 }):=by have:=PD.out;rw [if_pos rfl] at this;exact this
                  have hlt:=hl.turn hc
                  have htn:0≤s.turn∧s.turn≤1:=by have:=hk.turn;omega
                  have hps:M.passed r s x ({s with brk:=false,hand:=false,push:=pu,pushed:=pd,ay:=M.left r s x,s0:=a3,run:=b3,f0:=f3 })= {s with turn:=1 - s.turn,brk:=false,hand:=decide (M.iW r s x≠0∧(r.game≠M.aB∨M.iW r s x=1)),push:=pu,pushed:=pd,ay:=M.left r s x,s0:=a3,run:=0,f0:=f3 }:=by unfold M.passed;rw [hlt]
                  have hfr:=zl r s x
                  rw [Pz.out] at hps hfr
                  rw [hps] at hpm
                  have kM:=hide hpm
                  clear hpm hps hlt
                  have g5:=hQ.g.cell (j:=5) rfl
                  have Xm:=hQ.g.frozen 5
                  have hset:=fun hb:Bool=>hQ.set hD 5 (.bool hb)
                  have BL:=hide hset
                  clear hset
                  have DW:∀ z1 z2 z3:Bool,z1=(fl == 1)→z2=decide (1<fl)→z3=(r.game.toList == [115,116,114,97,105,103,104,116])→decide (fl≠0∧(r.game≠M.aB∨fl=1))=(z1 || (z2 && !z3)):=by
                   rintro z1 z2 z3 rfl rfl rfl
                   rw [bJ r.game [115,116,114,97,105,103,104,116],rO]
                   by_cases q1:fl=1
                   · simp [q1]
                   · by_cases q2:1<fl
                     · by_cases q3:r.game=M.aB <;> simp [q1,q2,q3] <;> omega
                     · have:fl=0:=by omega
                       simp [this]
                  have HH:=hide DW
                  clear DW
                  rcases z1:(fl == 1) with _ | _
                  · rcases z2:decide (1<fl) with _ | _
                    · have hhb:decide (fl≠0∧(r.game≠M.aB∨fl=1))=false:=by rw [HH.out _ _ _ z1.symm z2.symm rfl];rfl
                      have hS:dJ w (wc.setCell ⟨D,5,none⟩ (.bool false)) [(ah r (s) A c,127),(au ⟨x,P,d⟩,66),(aK,127)] D (ah r ({s with brk:=false,hand:=false,push:=pu,pushed:=pd,ay:=M.left r s x,s0:=a3,run:=b3,f0:=f3 }) A2 c2):=BL.out false
                      have rM:=hrk.setCell (p:=⟨D,5,none⟩) (fun h=>h.2 rfl) (.bool false)
                      have EN:=hide hhb
                      clear hhb
                      go_wp2_with (first | (refine aN 127 (.tmp 8) rfl ?_;refine aG (hS.g) Tryz.underlying127 rfl ak rfl (.tmp 8) rfl rfl ?_) | (go_at_call 143;refine (jd r ({s with brk:=false,hand:=false,push:=pu,pushed:=pd,ay:=M.left r s x,s0:=a3,run:=b3,f0:=f3 }) A2 c2 _ htn.1 htn.2).mono ?_;rintro e w5 ⟨rfl,hb5⟩;have sU:=hS.call (by simp) hb5) | (refine aO 127 (.tmp 4) (.tmp 134) rfl ?_;refine aF (sU.b.get 2 rfl) (ah r ({s with turn:=1 - s.turn,brk:=false,hand:=false,push:=pu,pushed:=pd,ay:=M.left r s x,s0:=a3,run:=0,f0:=f3 }) A2 c2) rfl ak (aX _ _ _ _) rfl (.tmp 4) (.tmp 134) rfl rfl rfl ?_))
                      have hZ:=sU.b.put 2 rfl (ah r ({s with turn:=1 - s.turn,brk:=false,hand:=false,push:=pu,pushed:=pd,ay:=M.left r s x,s0:=a3,run:=0,f0:=f3 }) A2 c2) rfl
                      refine bodyPost_ret (bP (p:=4) (hZ.get 2 rfl) Tryz.underlying127 rfl ak rfl _ rfl) rfl ⟨A2,c2,?_,?_,hZ.bw⟩
                      · rw [kM.out,EN.out];rfl
                      · rw [kM.out];exact (bD.sets hg2 _ 0 _ (bD.below rM hb5)).more (fun b _ h=>Nat.le_trans (by omega) h.1)
                    · rcases z3:(r.game.toList == [115,116,114,97,105,103,104,116]) with _ | _
                      · have hhb:decide (fl≠0∧(r.game≠M.aB∨fl=1))=true:=by rw [HH.out _ _ _ z1.symm z2.symm z3.symm];rfl
                        have hS:dJ w (wc.setCell ⟨D,5,none⟩ (.bool true)) [(ah r (s) A c,127),(au ⟨x,P,d⟩,66),(aK,127)] D (ah r ({s with brk:=false,hand:=true,push:=pu,pushed:=pd,ay:=M.left r s x,s0:=a3,run:=b3,f0:=f3 }) A2 c2):=BL.out true
                        have rM:=hrk.setCell (p:=⟨D,5,none⟩) (fun h=>h.2 rfl) (.bool true)
                        have EN:=hide hhb
                        clear hhb
                        go_wp2_with (first | (refine aN 127 (.tmp 8) rfl ?_;refine aG (hS.g) Tryz.underlying127 rfl ak rfl (.tmp 8) rfl rfl ?_) | (go_at_call 143;refine (jd r ({s with brk:=false,hand:=true,push:=pu,pushed:=pd,ay:=M.left r s x,s0:=a3,run:=b3,f0:=f3 }) A2 c2 _ htn.1 htn.2).mono ?_;rintro e w5 ⟨rfl,hb5⟩;have sU:=hS.call (by simp) hb5) | (refine aO 127 (.tmp 4) (.tmp 134) rfl ?_;refine aF (sU.b.get 2 rfl) (ah r ({s with turn:=1 - s.turn,brk:=false,hand:=true,push:=pu,pushed:=pd,ay:=M.left r s x,s0:=a3,run:=0,f0:=f3 }) A2 c2) rfl ak (aX _ _ _ _) rfl (.tmp 4) (.tmp 134) rfl rfl rfl ?_))
                        have hZ:=sU.b.put 2 rfl (ah r ({s with turn:=1 - s.turn,brk:=false,hand:=true,push:=pu,pushed:=pd,ay:=M.left r s x,s0:=a3,run:=0,f0:=f3 }) A2 c2) rfl
                        refine bodyPost_ret (bP (p:=4) (hZ.get 2 rfl) Tryz.underlying127 rfl ak rfl _ rfl) rfl ⟨A2,c2,?_,?_,hZ.bw⟩
                        · rw [kM.out,EN.out];rfl
                        · rw [kM.out];exact (bD.sets hg2 _ 0 _ (bD.below rM hb5)).more (fun b _ h=>Nat.le_trans (by omega) h.1)
                      · have hhb:decide (fl≠0∧(r.game≠M.aB∨fl=1))=false:=by rw [HH.out _ _ _ z1.symm z2.symm z3.symm];rfl
                        have hS:dJ w (wc.setCell ⟨D,5,none⟩ (.bool false)) [(ah r (s) A c,127),(au ⟨x,P,d⟩,66),(aK,127)] D (ah r ({s with brk:=false,hand:=false,push:=pu,pushed:=pd,ay:=M.left r s x,s0:=a3,run:=b3,f0:=f3 }) A2 c2):=BL.out false
                        have rM:=hrk.setCell (p:=⟨D,5,none⟩) (fun h=>h.2 rfl) (.bool false)
                        have EN:=hide hhb
                        clear hhb
                        go_wp2_with (first | (refine aN 127 (.tmp 8) rfl ?_;refine aG (hS.g) Tryz.underlying127 rfl ak rfl (.tmp 8) rfl rfl ?_) | (go_at_call 143;refine (jd r ({s with brk:=false,hand:=false,push:=pu,pushed:=pd,ay:=M.left r s x,s0:=a3,run:=b3,f0:=f3 }) A2 c2 _ htn.1 htn.2).mono ?_;rintro e w5 ⟨rfl,hb5⟩;have sU:=hS.call (by simp) hb5) | (refine aO 127 (.tmp 4) (.tmp 134) rfl ?_;refine aF (sU.b.get 2 rfl) (ah r ({s with turn:=1 - s.turn,brk:=false,hand:=false,push:=pu,pushed:=pd,ay:=M.left r s x,s0:=a3,run:=0,f0:=f3 }) A2 c2) rfl ak (aX _ _ _ _) rfl (.tmp 4) (.tmp 134) rfl rfl rfl ?_))
                        have hZ:=sU.b.put 2 rfl (ah r ({s with turn:=1 - s.turn,brk:=false,hand:=false,push:=pu,pushed:=pd,ay:=M.left r s x,s0:=a3,run:=0,f0:=f3 }) A2 c2) rfl
                        refine bodyPost_ret (bP (p:=4) (hZ.get 2 rfl) Tryz.underlying127 rfl ak rfl _ rfl) rfl ⟨A2,c2,?_,?_,hZ.bw⟩
                        · rw [kM.out,EN.out];rfl
                        · rw [kM.out];exact (bD.sets hg2 _ 0 _ (bD.below rM hb5)).more (fun b _ h=>Nat.le_trans (by omega) h.1)
                  · have hhb:decide (fl≠0∧(r.game≠M.aB∨fl=1))=true:=by rw [HH.out _ _ _ z1.symm rfl rfl];rfl
                    have hS:dJ w (wc.setCell ⟨D,5,none⟩ (.bool true)) [(ah r (s) A c,127),(au ⟨x,P,d⟩,66),(aK,127)] D (ah r ({s with brk:=false,hand:=true,push:=pu,pushed:=pd,ay:=M.left r s x,s0:=a3,run:=b3,f0:=f3 }) A2 c2):=BL.out true
                    have rM:=hrk.setCell (p:=⟨D,5,none⟩) (fun h=>h.2 rfl) (.bool true)
                    have EN:=hide hhb
                    clear hhb
                    go_wp2_with (first | (refine aN 127 (.tmp 8) rfl ?_;refine aG (hS.g) Tryz.underlying127 rfl ak rfl (.tmp 8) rfl rfl ?_) | (go_at_call 143;refine (jd r ({s with brk:=false,hand:=true,push:=pu,pushed:=pd,ay:=M.left r s x,s0:=a3,run:=b3,f0:=f3 }) A2 c2 _ htn.1 htn.2).mono ?_;rintro e w5 ⟨rfl,hb5⟩;have sU:=hS.call (by simp) hb5) | (refine aO 127 (.tmp 4) (.tmp 134) rfl ?_;refine aF (sU.b.get 2 rfl) (ah r ({s with turn:=1 - s.turn,brk:=false,hand:=true,push:=pu,pushed:=pd,ay:=M.left r s x,s0:=a3,run:=0,f0:=f3 }) A2 c2) rfl ak (aX _ _ _ _) rfl (.tmp 4) (.tmp 134) rfl rfl rfl ?_))
                    have hZ:=sU.b.put 2 rfl (ah r ({s with turn:=1 - s.turn,brk:=false,hand:=true,push:=pu,pushed:=pd,ay:=M.left r s x,s0:=a3,run:=0,f0:=f3 }) A2 c2) rfl
                    refine bodyPost_ret (bP (p:=4) (hZ.get 2 rfl) Tryz.underlying127 rfl ak rfl _ rfl) rfl ⟨A2,c2,?_,?_,hZ.bw⟩
                    · rw [kM.out,EN.out];rfl
                    · rw [kM.out];exact (bD.sets hg2 _ 0 _ (bD.below rM hb5)).more (fun b _ h=>Nat.le_trans (by omega) h.1)
               | true=>
                 as_aux_lemma=>
                  have hpm:M.play r s x=M.dW r (M.grouped r s x ({s with brk:=false,hand:=false,push:=pu,pushed:=pd,ay:=M.left r s x,s0:=a3,run:=b3,f0:=f3 })):=by have:=PD.out;rw [if_neg (by decide)] at this;exact this
                  have G5:=hide hpm
                  clear hpm
                  have xk:=(hQ.b.get 1 rfl).cell (j:=1) rfl
                  have xb:=(hQ.b.get 1 rfl).cell (j:=2) rfl
                  have kg:=(hQ.b.bf rfl).cell (j:=8) rfl
                  have g8:=hQ.g.cell (j:=8) rfl
                  have Xn:=hQ.g.frozen 8
                  have g9:=hQ.g.cell (j:=9) rfl
                  have e1:=bJ r.game [101,105,103,104,116]
                  have e2:=bJ x.kind [112,108,97,121]
                  have e3:=bJ r.game [115,116,114,97,105,103,104,116]
                  have E1:=hide e1
                  have E2:=hide e2
                  have E3:=hide e3
                  clear e1 e2 e3
                  have hsd:=M.Dq x.aJ
                  rcases y8:(r.game.toList == [101,105,103,104,116]) with _ | _
                  · have GI:¬ r.game=M.aQ:=by have:=E1.out;rw [y8] at this;simpa using this.symm
                    have zC:M.grouped r s x ({s with brk:=false,hand:=false,push:=pu,pushed:=pd,ay:=M.left r s x,s0:=a3,run:=b3,f0:=f3 })= {s with brk:=false,hand:=false,push:=pu,pushed:=pd,ay:=M.left r s x,s0:=a3,run:=b3,f0:=f3 }:=by unfold M.grouped;rw [if_neg (fun h=>GI h.1)]
                    have EM:=hide zC
                    clear zC GI
                    rcases zs:(r.game.toList == [115,116,114,97,105,103,104,116]) with _ | _
                    · have hns:¬ r.game=M.aB:=by have:=E3.out;rw [zs] at this;simpa using this.symm
                      have hpm:M.play r s x= {s with brk:=false,hand:=false,push:=pu,pushed:=pd,ay:=M.left r s x,s0:=a3,run:=b3,f0:=f3 }:=by rw [G5.out,EM.out];unfold M.dW;rw [if_neg (fun h=>hns h.1)]
                      have kM:=hide hpm
                      have Fj:=hide hns
                      clear hpm hns
                      go_wp2_with (first | (refine aN 127 (.tmp 8) rfl ?_;refine aG (hQ.g) Tryz.underlying127 rfl ak rfl (.tmp 8) rfl rfl ?_) | (refine aO 127 (.tmp 4) (.tmp 176) rfl ?_;refine aF (hQ.b.get 2 rfl) (ah r ({s with brk:=false,hand:=false,push:=pu,pushed:=pd,ay:=M.left r s x,s0:=a3,run:=b3,f0:=f3 }) A2 c2) rfl ak (aX _ _ _ _) rfl (.tmp 4) (.tmp 176) rfl rfl rfl ?_))
                      have hZ:=hQ.b.put 2 rfl (ah r ({s with brk:=false,hand:=false,push:=pu,pushed:=pd,ay:=M.left r s x,s0:=a3,run:=b3,f0:=f3 }) A2 c2) rfl
                      refine bodyPost_ret (bP (p:=4) (hZ.get 2 rfl) Tryz.underlying127 rfl ak rfl _ rfl) rfl ⟨A2,c2,?_,?_,hZ.bw⟩
                      · rw [kM.out];rfl
                      · rw [kM.out];exact (bD.sets hg2 _ 0 _ hrk).more (fun b _ h=>Nat.le_trans (by omega) h.1)
                    · have hns:r.game=M.aB:=by have:=E3.out;rw [zs] at this;simpa using this.symm
                      have UH:=hide hns
                      clear hns
                      by_cases hln:(M.left r s x).length≤1
                      · have d2:decide (((M.left r s x).length:Int)≤1)=true:=by rw [decide_eq_true_eq];omega
                        have hpm:M.play r s x= {s with brk:=false,hand:=false,push:=pu,pushed:=pd,ay:=M.jA r,s0:=a3,run:=b3,f0:=f3,aZ:=s.aZ+1 }:=by rw [G5.out,EM.out];unfold M.dW;rw [if_pos ⟨UH.out,hln⟩]
                        have kM:=hide hpm
                        clear hpm
                        go_wp2_with (first | (refine aN 127 (.tmp 8) rfl ?_;refine aG (hQ.g) Tryz.underlying127 rfl ak rfl (.tmp 8) rfl rfl ?_) | (go_at_call 166;refine (uj r ({s with brk:=false,hand:=false,push:=pu,pushed:=pd,ay:=M.left r s x,s0:=a3,run:=b3,f0:=f3 }) A2 c2 _ (by show 0≤s.aZ;omega) (by show s.aZ≤1000000;omega)).mono ?_;rintro e w5 ⟨A4,c4,rfl,hr4,hb5⟩;have sU:=hQ.call (by simp) hb5) | (refine aO 127 (.tmp 4) (.tmp 175) rfl ?_;refine aF (sU.b.get 2 rfl) (ah r ({s with brk:=false,hand:=false,push:=pu,pushed:=pd,ay:=M.jA r,s0:=a3,run:=b3,f0:=f3,aZ:=s.aZ+1 }) A4 c4) rfl ak (aX _ _ _ _) rfl (.tmp 4) (.tmp 175) rfl rfl rfl ?_))
                        have hZ:=sU.b.put 2 rfl (ah r ({s with brk:=false,hand:=false,push:=pu,pushed:=pd,ay:=M.jA r,s0:=a3,run:=b3,f0:=f3,aZ:=s.aZ+1 }) A4 c4) rfl
                        refine bodyPost_ret (bP (p:=4) (hZ.get 2 rfl) Tryz.underlying127 rfl ak rfl _ rfl) rfl ⟨A4,c4,?_,?_,hZ.bw⟩
                        · rw [kM.out];rfl
                        · rw [kM.out]
                          have hg3:¬ (fun b=>wc.heap.size≤b) (w.heap.size+2):=fun h=>by
                           have h:wc.heap.size≤w.heap.size+2:=h
                           omega
                          exact (bD.sets hg3 _ 0 _ hr4).more (fun b _ h=>by omega)
                      · have d2:decide (((M.left r s x).length:Int)≤1)=false:=by rw [decide_eq_false_iff_not];omega
                        have hpm:M.play r s x= {s with brk:=false,hand:=false,push:=pu,pushed:=pd,ay:=M.left r s x,s0:=a3,run:=b3,f0:=f3 }:=by rw [G5.out,EM.out];unfold M.dW;rw [if_neg (fun h=>hln h.2)]
                        have kM:=hide hpm
                        have Fj:=hide hln
                        clear hpm hln
                        go_wp2_with (first | (refine aN 127 (.tmp 8) rfl ?_;refine aG (hQ.g) Tryz.underlying127 rfl ak rfl (.tmp 8) rfl rfl ?_) | (refine aO 127 (.tmp 4) (.tmp 176) rfl ?_;refine aF (hQ.b.get 2 rfl) (ah r ({s with brk:=false,hand:=false,push:=pu,pushed:=pd,ay:=M.left r s x,s0:=a3,run:=b3,f0:=f3 }) A2 c2) rfl ak (aX _ _ _ _) rfl (.tmp 4) (.tmp 176) rfl rfl rfl ?_))
                        have hZ:=hQ.b.put 2 rfl (ah r ({s with brk:=false,hand:=false,push:=pu,pushed:=pd,ay:=M.left r s x,s0:=a3,run:=b3,f0:=f3 }) A2 c2) rfl
                        refine bodyPost_ret (bP (p:=4) (hZ.get 2 rfl) Tryz.underlying127 rfl ak rfl _ rfl) rfl ⟨A2,c2,?_,?_,hZ.bw⟩
                        · rw [kM.out];rfl
                        · rw [kM.out];exact (bD.sets hg2 _ 0 _ hrk).more (fun b _ h=>Nat.le_trans (by omega) h.1)
                  · have Ot:r.game=M.aQ:=by have:=E1.out;rw [y8] at this;simpa using this.symm
                    have zs:(r.game.toList == [115,116,114,97,105,103,104,116])=false:=by rw [E3.out,Ot];decide
                    have hns:¬ r.game=M.aB:=by rw [Ot];decide
                    have UG:=hide Ot
                    clear Ot
                    rcases yp:(x.kind.toList == [112,108,97,121]) with _ | _
                    · have zC:M.grouped r s x ({s with brk:=false,hand:=false,push:=pu,pushed:=pd,ay:=M.left r s x,s0:=a3,run:=b3,f0:=f3 })= {s with brk:=false,hand:=false,push:=pu,pushed:=pd,ay:=M.left r s x,s0:=a3,run:=b3,f0:=f3 }:=by unfold M.grouped;rw [if_neg (fun h=>by have:=E2.out;rw [yp] at this;simp [h.2.1] at this)]
                      have EM:=hide zC
                      clear zC
                      have hpm:M.play r s x= {s with brk:=false,hand:=false,push:=pu,pushed:=pd,ay:=M.left r s x,s0:=a3,run:=b3,f0:=f3 }:=by rw [G5.out,EM.out];unfold M.dW;rw [if_neg (fun h=>hns h.1)]
                      have kM:=hide hpm
                      have Fj:=hide hns
                      clear hpm hns
                      go_wp2_with (first | (refine aN 127 (.tmp 8) rfl ?_;refine aG (hQ.g) Tryz.underlying127 rfl ak rfl (.tmp 8) rfl rfl ?_) | (refine aO 127 (.tmp 4) (.tmp 176) rfl ?_;refine aF (hQ.b.get 2 rfl) (ah r ({s with brk:=false,hand:=false,push:=pu,pushed:=pd,ay:=M.left r s x,s0:=a3,run:=b3,f0:=f3 }) A2 c2) rfl ak (aX _ _ _ _) rfl (.tmp 4) (.tmp 176) rfl rfl rfl ?_))
                      have hZ:=hQ.b.put 2 rfl (ah r ({s with brk:=false,hand:=false,push:=pu,pushed:=pd,ay:=M.left r s x,s0:=a3,run:=b3,f0:=f3 }) A2 c2) rfl
                      refine bodyPost_ret (bP (p:=4) (hZ.get 2 rfl) Tryz.underlying127 rfl ak rfl _ rfl) rfl ⟨A2,c2,?_,?_,hZ.bw⟩
                      · rw [kM.out];rfl
                      · rw [kM.out];exact (bD.sets hg2 _ 0 _ hrk).more (fun b _ h=>Nat.le_trans (by omega) h.1)
                    · rcases yg:(s.group == 0) with _ | _
                      · have zC:M.grouped r s x ({s with brk:=false,hand:=false,push:=pu,pushed:=pd,ay:=M.left r s x,s0:=a3,run:=b3,f0:=f3 })= {s with brk:=false,hand:=false,push:=pu,pushed:=pd,ay:=M.left r s x,s0:=a3,run:=b3,f0:=f3 }:=by unfold M.grouped;rw [if_neg (fun h=>by rw [rO] at yg;simp [h.2.2] at yg)]
                        have EM:=hide zC
                        clear zC
                        have hpm:M.play r s x= {s with brk:=false,hand:=false,push:=pu,pushed:=pd,ay:=M.left r s x,s0:=a3,run:=b3,f0:=f3 }:=by rw [G5.out,EM.out];unfold M.dW;rw [if_neg (fun h=>hns h.1)]
                        have kM:=hide hpm
                        have Fj:=hide hns
                        clear hpm hns
                        go_wp2_with (first | (refine aN 127 (.tmp 8) rfl ?_;refine aG (hQ.g) Tryz.underlying127 rfl ak rfl (.tmp 8) rfl rfl ?_) | (refine aO 127 (.tmp 4) (.tmp 176) rfl ?_;refine aF (hQ.b.get 2 rfl) (ah r ({s with brk:=false,hand:=false,push:=pu,pushed:=pd,ay:=M.left r s x,s0:=a3,run:=b3,f0:=f3 }) A2 c2) rfl ak (aX _ _ _ _) rfl (.tmp 4) (.tmp 176) rfl rfl rfl ?_))
                        have hZ:=hQ.b.put 2 rfl (ah r ({s with brk:=false,hand:=false,push:=pu,pushed:=pd,ay:=M.left r s x,s0:=a3,run:=b3,f0:=f3 }) A2 c2) rfl
                        refine bodyPost_ret (bP (p:=4) (hZ.get 2 rfl) Tryz.underlying127 rfl ak rfl _ rfl) rfl ⟨A2,c2,?_,?_,hZ.bw⟩
                        · rw [kM.out];rfl
                        · rw [kM.out];exact (bD.sets hg2 _ 0 _ hrk).more (fun b _ h=>Nat.le_trans (by omega) h.1)
                      · have zC:M.play r s x= {s with brk:=false,hand:=false,push:=pu,pushed:=pd,group:=M.side x.aJ,ay:=M.left r s x,s0:=a3,run:=b3,f0:=f3 }:=by
                         have q1:=E2.out
                         rw [yp] at q1
                         have q2:x.kind=M.jO:=by simpa using q1.symm
                         have q3:s.group=0:=by rw [rO] at yg;simpa using yg
                         rw [G5.out]
                         unfold M.grouped
                         rw [if_pos ⟨UG.out,q2,q3⟩]
                         unfold M.dW
                         rw [if_neg (fun h=>hns h.1),Dw.out]
                         rfl
                        have kM:=hide zC
                        have hns0:=hide hns
                        clear zC hns
                        have hS:dJ w (wc.setCell ⟨D,8,none⟩ (.int .i64 (M.side x.aJ))) [(ah r (s) A c,127),(au ⟨x,P,d⟩,66),(aK,127)] D (ah r ({s with brk:=false,hand:=false,push:=pu,pushed:=pd,group:=M.side x.aJ,ay:=M.left r s x,s0:=a3,run:=b3,f0:=f3 }) A2 c2):=hQ.set hD 8 _
                        have rM:=hrk.setCell (p:=⟨D,8,none⟩) (fun h=>h.2 rfl) (.int .i64 (M.side x.aJ))
                        go_wp2_with (first | (go_at_call 146;refine (lN _ _).mono ?_;rintro e dO ⟨rfl,rfl⟩) | (refine aN 127 (.tmp 8) rfl ?_;refine aG (hS.g) Tryz.underlying127 rfl ak rfl (.tmp 8) rfl rfl ?_) | (refine aO 127 (.tmp 4) (.tmp 176) rfl ?_;refine aF (hS.b.get 2 rfl) (ah r ({s with brk:=false,hand:=false,push:=pu,pushed:=pd,group:=M.side x.aJ,ay:=M.left r s x,s0:=a3,run:=b3,f0:=f3 }) A2 c2) rfl ak (aX _ _ _ _) rfl (.tmp 4) (.tmp 176) rfl rfl rfl ?_))
                        have hZ:=hS.b.put 2 rfl (ah r ({s with brk:=false,hand:=false,push:=pu,pushed:=pd,group:=M.side x.aJ,ay:=M.left r s x,s0:=a3,run:=b3,f0:=f3 }) A2 c2) rfl
                        refine bodyPost_ret (bP (p:=4) (hZ.get 2 rfl) Tryz.underlying127 rfl ak rfl _ rfl) rfl ⟨A2,c2,?_,?_,hZ.bw⟩
                        · rw [kM.out];rfl
                        · rw [kM.out];exact (bD.sets hg2 _ 0 _ rM).more (fun b _ h=>Nat.le_trans (by omega) h.1)
end Go.Proofs.YtelpepbpdojikaaGreatDoor
