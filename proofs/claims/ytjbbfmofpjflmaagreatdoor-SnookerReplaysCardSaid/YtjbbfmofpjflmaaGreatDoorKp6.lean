/- Parts of a proof. -/
import Derived.Test.YtjbbfmofpjflmaaGreatDoorKp3
import Derived.Test.YtjbbfmofpjflmaaGreatDoorKp4
import Derived.Test.YtjbbfmofpjflmaaGreatDoorKp5
import Derived.Test.YtjbbfmofpjflmaaGreatDoorKr22
import Derived.Test.YtjbbfmofpjflmaaGreatDoorKr36
set_option maxHeartbeats 3200000
set_option maxRecDepth 100000
set_option linter.unusedVariables false
set_option linter.unusedSimpArgs false
namespace Go.Proofs.YtjbbfmofpjflmaaGreatDoor
open Go.RowKit
theorem aal (W:World) (o:Obj) (vs:List Value):Below W.heap.size W ((W.alloc o).setCells W.heap.size 0 vs):=below_setCells _ (Nat.le_refl _) vs 0 _ _ ((Below.refl _ _).alloc (Nat.le_refl _) o)
theorem ahK (g:Sk.Game) (l:List En) (p:Int):fst [Sk.iO g (bare l),jg (p != 0 && p != 1) 3]=V6 g l p:=by
 unfold V6
 have:(p != 0 && p != 1)=Sk.out p 0 1:=by unfold Sk.out;rw [Bool.eq_iff_iff];simp;omega
 rw [this]
theorem agz {g:Sk.Game} {l:List En} {p:Int} (h:¬ Sk.iO g (bare l)=0):V6 g l p=Sk.iO g (bare l)∧V7 g l p=[]∧YU g l=Sk.zero∧VG g l=[]:=by
 have h1:V6 g l p=Sk.iO g (bare l):=by unfold V6;rw [xB,if_pos h]
 exact ⟨h1,by unfold V7;rw [if_neg (by rw [h1];exact h)],by unfold YU;rw [if_neg h],by unfold VG;rw [if_neg h]⟩
theorem ahS {g:Sk.Game} {l:List En} {p:Int} (h:Sk.iO g (bare l)=0):YU g l=Sk.final g (Sk.start g) (bare l)∧VG g l=Sk.iE g (Sk.start g) 1 (bare l)∧V7 g l p=(if V6 g l p=0 then Sk.breaks g p (bare l) else []):=
 ⟨by unfold YU;rw [if_pos h],by unfold VG;rw [if_pos h],rfl⟩
theorem acP (S:Nat→Prop) (g:Sk.Game) (l:List En) (A:Option Addr) (c:Nat) (p:Int) (w:World) (hG:Glob w) (hl:ni w S A c l) (hn:l.length*88≤140737488355328):
 Calls Tryz.prog 4 #[lX g,.slice A l.length c,.int .i64 p] w fun e w'=>e= .returned (.bool true)∧Below w.heap.size w w':=by
 have HG:=hide hG;clear hG;obtain ⟨b1,b2,b3⟩:=hl.bd
 go_enter Tryz.func4,Tryz.ntmps4
 go_upto_region 0 with (fail)
 go_cut [3,6] (fun v3 v6 wx=>v3=ptr (w.heap.size)∧v6= .bool false∧Bx w wx [(w.heap.size,bK g,23)])
 case first=>
  go_wp2;go_meet;exact ⟨rfl,rfl,Bx.of ((aG.nil w).new (by simp) (bK g) 23) _ rfl⟩
 case rest=>
  obtain ⟨rfl,rfl,hL⟩:=hcut
  go_upto_region 1 with (fail)
  go_cut [7,8] from 18 to 21 (fun v7 v8 wx=>∃ B7 A8 c8,v7=ptr B7∧v8= .slice A8 l.length c8∧(∃ S8:Nat→Prop,ni wx S8 A8 c8 l)∧Bx w wx [(B7,bK g,28),(w.heap.size,bK g,23)])
  case first=>
   have aAU:=hL.bw.size;have adr:∀ W:World,Bx w W [(w.heap.size,bK g,23)]→W.rangeAt (w.heap.size) 0 ([.string g.kind,.int .i64 g.aY,.int .i64 g.target,.int .i64 g.turns]):=fun W h=>h.rng 0 rfl 0 _ rfl;have hL:=hL.drew;refine wp_region_held_drew (S:=(fun w':World=>Bx w w' [(w.heap.size,bK g,23)])) (by kernel_rfl) ?bg (fun hHeld=>?_)
   case bg=>exact hL
   refine wpAnyH_take (i:=0) (oi:=_) (v:=_) (ga rfl) (by kernel_rfl) (by kernel_rfl) (by kernel_rfl) (fun _ _ _ h=>h) (yieldsIf_load_mid (by rfl) _ _ (by rfl) _ _ (by rfl) _ _ adr Tryz.underlying23 rfl (by kernel_rfl)) (by assumption) ?_
   try simp only [Act.put,la,lz,ls]
   refine tk 1 ?_;refine wpAnyH_ready (rs:=[2,3]) (by kernel_rfl) (by simp) ?_;refine AllReadyH.cons (o:=_) (ga rfl) (fun K hK=>?_) (AllReadyH.cons (o:=_) (ga rfl) (fun K hK=>?_) AllReadyH.nil)
   · go_simp
     (go_at_call 15;refine (Di (fun b=>b<w.heap.size) l A c _ ((hl.more (S':=fun b=>b<w.heap.size) (fun b hb _=>hb)).below hL.bw) hn).mono ?_;rintro e Zb ⟨A8,c8,rfl,hE,PE⟩)
     have hL:=hL.call PE;have hE:=hE.lim;refine hK.out _ _ ?agq (fun hHeld=>?_)
     case agq=>(first | exact hL | exact hL.tail)
     clear hK K
     try simp only [Act.put,la,lz,ls]
     refine tr 3 fun K hK=>?_;go_simp;have hL:=hL.add (bK ⟨⟨#[]⟩,0,0,0⟩) 28
     try have hE:=hE.below ((Below.refl _ _).alloc (Nat.le_refl _) (.cells (bK ⟨⟨#[]⟩,0,0,0⟩).toArray 28))
     refine hK.out _ _ ?aeL (fun hHeld=>?_)
     case aeL=>(exact hL.tail)
     clear hK K
     try simp only [Act.put,la,lz,ls]
     refine tr 4 fun K hK=>?_;refine aQ hL.head (bK g) rfl dP (Ew _) (.tmp 7) (.tmp 18) rfl rfl rfl ?_;have ai8:=hL.bw.size;have hE:=hE.arB hL (by rintro b ⟨h1 | h1,h2⟩ <;> (intro h3;(try simp at h1);(try simp at h2);(try simp at h3);omega)) (bK g) 0;have hL:=hL.put (bK g) rfl;refine hK.out _ _ ?ae2 (fun hHeld=>?_)
     case ae2=>(exact hL.tail)
     clear hK K
     try simp only [Act.put,la,lz,ls]
     refine tk 5 ?_;refine wpAnyH_done (by kernel_rfl) ?_ _;go_wp2;go_meet;exact ⟨_,_,_,rfl,rfl,⟨_,hE⟩,hL⟩
   · go_simp
     have hL:=hL.add (bK ⟨⟨#[]⟩,0,0,0⟩) 28
     try have hE:=hE.below ((Below.refl _ _).alloc (Nat.le_refl _) (.cells (bK ⟨⟨#[]⟩,0,0,0⟩).toArray 28))
     refine hK.out _ _ ?aeU (fun hHeld=>?_)
     case aeU=>(exact hL.tail)
     clear hK K
     try simp only [Act.put,la,lz,ls]
     refine tr 2 fun K hK=>?_;go_simp
     (go_at_call 15;refine (Di (fun b=>b<w.heap.size) l A c _ ((hl.more (S':=fun b=>b<w.heap.size) (fun b hb _=>hb)).below hL.bw) hn).mono ?_;rintro e Zb ⟨A8,c8,rfl,hE,PE⟩)
     have hL:=hL.call PE;have hE:=hE.lim;refine hK.out _ _ ?aeD (fun hHeld=>?_)
     case aeD=>(first | exact hL | exact hL.tail)
     clear hK K
     try simp only [Act.put,la,lz,ls]
     refine tr 4 fun K hK=>?_;refine aQ hL.head (bK g) rfl dP (Ew _) (.tmp 7) (.tmp 18) rfl rfl rfl ?_;have ai8:=hL.bw.size;have hE:=hE.arB hL (by rintro b ⟨h1 | h1,h2⟩ <;> (intro h3;(try simp at h1);(try simp at h2);(try simp at h3);omega)) (bK g) 0;have hL:=hL.put (bK g) rfl;refine hK.out _ _ ?afa (fun hHeld=>?_)
     case afa=>(exact hL.tail)
     clear hK K
     try simp only [Act.put,la,lz,ls]
     refine tk 5 ?_;refine wpAnyH_done (by kernel_rfl) ?_ _;go_wp2;go_meet;exact ⟨_,_,_,rfl,rfl,⟨_,hE⟩,hL⟩
  case rest=>
   obtain ⟨B7,A8,c8,rfl,rfl,⟨S8,hE⟩,hL⟩:=hcut;have k1:=(hL.get 1 rfl).cell (j:=0) rfl
   go_upto_region 2 with (fail)
   go_cut [33] from 21 to 34 (fun v33 wx=>∃ b,v33= .bool b∧ni wx S8 A8 c8 l∧Bx w wx [(B7,bK g,28),(w.heap.size,bK g,23)])
   case first=>
    rcases ha0:decide (20<(g.kind.size:Int)) with _ | _
    all_goals
     go_wp2_with (first | (go_at_call 12;refine (aw1 _ (HG.out.below hL.bw)).mono ?_;rintro e w1 ⟨rfl,hb1⟩;have hL:=hL.call hb1;have hE:=hE.below hb1;have k1:=(hL.get 1 rfl).cell (j:=0) rfl) | (go_at_call 14;refine (JX S8 A8 c8 l 40 _ hE).mono ?_;rintro e w4 ⟨⟨bs,rfl⟩,hb4⟩;have hL:=hL.call hb4;have hE:=hE.below hb4))
     go_meet;exact ⟨_,rfl,hE,hL⟩
   case rest=>
    obtain ⟨b,rfl,hE,hL⟩:=hcut;clear k1
    cases b
    rotate_left
    · go_wp2_with (first | (go_at_call 12;refine (aw1 _ (HG.out.below hL.bw)).mono ?_;rintro e w1 ⟨rfl,hb1⟩;have hL:=hL.call hb1))
      go_ret;exact ⟨rfl,hL.bw⟩
    obtain ⟨E0,hE0⟩:∃ q,Sk.iO g (bare l)=q:=⟨_,rfl⟩;obtain ⟨E,hEE⟩:∃ q,V6 g l p=q:=⟨_,rfl⟩;obtain ⟨s1,hs1⟩:∃ q,YU g l=q:=⟨_,rfl⟩;obtain ⟨rr,hrr⟩:∃ q,VG g l=q:=⟨_,rfl⟩;obtain ⟨bb,hbb⟩:∃ q,V7 g l p=q:=⟨_,rfl⟩;have hrp:=fun W h=>xY S g l A c W h;have hbk:=fun W h=>xW S g l A c p W h;have hck:=fun S' A' c' W (h:ni W S' A' c' l)=>JR S' g l A' c' W h;have hfi:=ahK g l p;have hbad:=@agz g l p;have agh:=@ahS g l p;rw [hE0,hs1,hrr] at hrp;rw [hEE,hbb] at hbk;rw [hE0] at hck;rw [hEE,hE0] at hfi;rw [hE0,hEE,hbb,hs1,hrr] at hbad;rw [hE0,hEE,hbb,hs1,hrr] at agh
    have hlen:rr.length≤1000:=by
     by_cases h0:E0=0
     · rw [(agh h0).2.1, ← BX]
       have:=BZ g l l.length
       have:=(tK (hE0.trans h0)).2.2
       omega
     · rw [(hbad h0).2.2.2]
       simp
    have HRP:=hide hrp;have TP:=hide hbk;have qJ:=hide hck;have HFI:=hide hfi;have HBAD:=hide hbad;have ai0:=hide agh;have HE0:=hide hE0;clear hE0 hEE hs1 hrr hbb hrp hbk hck hfi hbad agh
    go_upto_region 4 with (fail)
    go_cut [9,10,11] from 34 to 42 (fun v9 v10 v11 wx=>∃ (B9:Nat) (A2:Option Addr) (c2:Nat) (S2:Nat→Prop),v9=ptr B9∧v10= .slice A2 rr.length c2∧v11= .int .i64 E0∧ni wx S8 A8 c8 l∧Reads wx S2 2 A2 rr.length c2 (WV rr)∧Bx w wx [(B9,aC s1,26),(B7,bK g,28),(w.heap.size,bK g,23)])
    case first=>
     go_wp2_with (first | ((with_reducible refine bJ 23 3 ?_);refine ig (hL.rn 1 0 ([.string g.kind,.int .i64 g.aY,.int .i64 g.target,.int .i64 g.turns])) Tryz.underlying23 dQ ?_) | (go_at_call 25;refine (HRP.out _ (hl.below hL.bw)).mono ?_;rintro e w6 ⟨A2,c2,rfl,hR,hb6⟩;have hL:=hL.call hb6;have hE:=hE.below hb6;have hZ:=hL.add (aC Sk.zero) 26) | ((with_reducible refine isS 26 9 39 ?_);refine fU (hZ.get 0 rfl) (aC s1) aj (aT _) ?_))
     go_meet;exact ⟨_,_,_,_,rfl,rfl,rfl,hE.below (aal _ _ _),Reads.below hR (aal _ _ _),hZ.put (aC s1) rfl⟩
    case rest=>
     obtain ⟨B9,A2,c2,S2,rfl,rfl,rfl,hE,hR,hL⟩:=hcut
     go_upto_region 5 with (fail)
     go_cut [12,13] from 42 to 49 (fun v12 v13 wx=>∃ (A3:Option Addr) (c3:Nat) (S3:Nat→Prop),v12= .slice A3 bb.length c3∧v13= .int .i64 E∧ni wx S8 A8 c8 l∧Reads wx S2 2 A2 rr.length c2 (WV rr)∧nI wx S3 A3 c3 bb∧Bx w wx [(B9,aC s1,26),(B7,bK g,28),(w.heap.size,bK g,23)])
     case first=>
      go_wp2_with (first | ((with_reducible refine bJ 23 3 ?_);refine ig (hL.rn 2 0 ([.string g.kind,.int .i64 g.aY,.int .i64 g.target,.int .i64 g.turns])) Tryz.underlying23 dQ ?_) | (go_at_call 26;refine (TP.out _ (hl.below hL.bw)).mono ?_;rintro e w7 ⟨A3,c3,rfl,hB,hb7⟩;have hL:=hL.call hb7;have hE:=hE.below hb7;have hR:=Reads.below hR hb7))
      go_meet;exact ⟨_,_,_,rfl,rfl,hE,hR,hB,hL⟩
     case rest=>
      obtain ⟨A3,c3,S3,rfl,rfl,hE,hR,hB,hL⟩:=hcut
      go_upto_region 7 with (first | ((with_reducible refine bJ 28 7 ?_);refine ig (hL.rn 1 0 ([.string g.kind,.int .i64 g.aY,.int .i64 g.target,.int .i64 g.turns])) Tryz.underlying28 dP ?_) | (go_at_call 21;refine (qJ.out _ _ _ _ hE).mono ?_;rintro e w8 ⟨rfl,hb8⟩;have hL:=hL.call hb8;have hE:=hE.below hb8;have hR:=Reads.below hR hb8;have hB:=Reads.below hB hb8))
      go_cut [15] from 49 to 62 (fun v15 wx=>v15= .int .i64 E∧ni wx S8 A8 c8 l∧Reads wx S2 2 A2 rr.length c2 (WV rr)∧nI wx S3 A3 c3 bb∧Bx w wx [(B9,aC s1,26),(B7,bK g,28),(w.heap.size,bK g,23)])
      case first=>
       rcases hp0:(p != 0) with _ | _
       all_goals
        rcases hp1:(p != 1) with _ | _
        all_goals
         have HF:=hide (show fst [E0,jg _ 3]=E from HFI.out);rw [hp0,hp1] at HF
         go_wp2_with (first | (go_at_call 28;refine (JB _ _ _).mono ?_;rintro e qK ⟨rfl,rfl⟩) | (go_at_call 27;refine (Gx (fun _=>True) _ _ [E0,_] _ (nI.row _ _ [E0,_] (by simp) _ trivial)).mono ?_;rintro e w98 ⟨rfl,rfl⟩))
         go_meet;exact ⟨congrArg _ HF.out,hE.below ((Below.refl _ _).alloc (Nat.le_refl _) _),Reads.below hR ((Below.refl _ _).alloc (Nat.le_refl _) _),Reads.below hB ((Below.refl _ _).alloc (Nat.le_refl _) _),hL.alloc _⟩
      case rest=>
       obtain ⟨rfl,hE,hR,hB,hL⟩:=hcut
       by_cases h0:E0=0
       · have hd:(E0 != 0)=false:=by simp [h0]
         obtain ⟨z1,z2,z3⟩:=ai0.out h0;have HZ:=hide (HE0.out.trans h0);have ahd:=fun W (h:ni W S8 A8 c8 l)=>adp S8 g l A8 c8 W h HZ.out;have ag5:=fun W (h:ni W S8 A8 c8 l)=>adf S8 g l A8 c8 p W h HZ.out;rw [← z1, ← z2] at ahd;obtain ⟨BB,hBB⟩:∃ q,Sk.breaks g p (bare l)=q:=⟨_,rfl⟩;rw [hBB] at ag5 z3;have HRR:=hide ahd;have HRB:=hide ag5;have HZ3:=hide z3;subst h0;clear z1 z2 z3 ahd ag5 hBB
         go_upto_region 10 with (fail)
         go_cut [16,17] from 80 to 86 (fun v16 v17 wx=>∃ (Ol:Nat) (A5:Option Addr) (c5:Nat) (S5:Nat→Prop),v16=ptr Ol∧v17= .slice A5 rr.length c5∧Reads wx S5 2 A5 rr.length c5 (WV rr)∧ni wx S8 A8 c8 l∧Reads wx S2 2 A2 rr.length c2 (WV rr)∧nI wx S3 A3 c3 bb∧Bx w wx [(Ol,aC s1,39),(B9,aC s1,26),(B7,bK g,28),(w.heap.size,bK g,23)])
         case first=>
          go_wp2_with (first | ((with_reducible refine bJ 28 7 ?_);refine ig (hL.rn 1 0 ([.string g.kind,.int .i64 g.aY,.int .i64 g.target,.int .i64 g.turns])) Tryz.underlying28 dP ?_) | (go_at_call 30;refine (HRR.out _ hE).mono ?_;rintro e w9 ⟨A5,c5,rfl,hA,zq⟩;have hL:=hL.call zq;have hE:=hE.below zq;have hR:=Reads.below hR zq;have hB:=Reads.below hB zq;have hZ:=hL.add (aC Sk.zero) 39) | ((with_reducible refine isS 39 16 84 ?_);refine fU (hZ.get 0 rfl) (aC s1) aJ (aT _) ?_))
          go_meet;exact ⟨_,_,_,_,rfl,rfl,Reads.below hA (aal _ _ _),hE.below (aal _ _ _),Reads.below hR (aal _ _ _),Reads.below hB (aal _ _ _),hZ.put (aC s1) rfl⟩
         case rest=>
          obtain ⟨Ol,A5,c5,S5,rfl,rfl,hA,hE,hR,hB,hL⟩:=hcut;have HS:=hide (show (0:Int)=0∧s1=if (0:Int)=0 then s1 else Sk.zero from ⟨rfl,rfl⟩)
          go_upto_region 11 with (fail)
          go_cut [97] from 86 to 98 (fun v97 wx=>v97= .bool false∧ni wx S8 A8 c8 l∧nI wx S3 A3 c3 bb∧Bx w wx [(Ol,aC s1,39),(B9,aC s1,26),(B7,bK g,28),(w.heap.size,bK g,23)])
          case first=>
           go_wp2_with (first | ((with_reducible refine bJ 26 9 ?_);refine ig (hL.rn 1 0 (aC s1)) Tryz.underlying26 aj ?_) | ((with_reducible refine bJ 39 16 ?_);refine ig (hL.rn 0 0 (aC s1)) Tryz.underlying39 aJ ?_) | (go_at_call 23;refine (JA _ _ _ _ HS.out.1 HS.out.2 _).mono ?_;rintro e w10 ⟨rfl,ac5⟩;have hL:=hL.call ac5;have hA:=Reads.below hA ac5;have hE:=hE.below ac5;have hR:=Reads.below hR ac5;have hB:=Reads.below hB ac5) | (go_at_call 32;refine (adx _ _ _ _ _ hR hlen).mono ?_;rintro e w11 ⟨A6,c6,rfl,KN,Pv⟩;have hL:=hL.call Pv;have hA:=Reads.below hA Pv;have hE:=hE.below Pv;have hB:=Reads.below hB Pv) | (go_at_call 31;refine (acy _ _ _ _ _ _ _ _ KN hA).mono ?_;rintro e w12 ⟨rfl,kN⟩;have hL:=hL.call kN;have hE:=hE.below kN;have hB:=Reads.below hB kN))
           go_meet;exact ⟨rfl,hE,hB,hL⟩
          case rest=>
           obtain ⟨rfl,hE,hB,hL⟩:=hcut
           by_cases h2:E=0
           · have hd2:(E != 0)=false:=by simp [h2]
             have HLI:=hide (show E=0∧bb=if (0:Int)=0 then BB else [] from ⟨h2,by rw [HZ3.out,if_pos h2];rfl⟩);clear h2
             go_wp2_with (first | ((with_reducible refine bJ 28 7 ?_);refine ig (hL.rn 2 0 ([.string g.kind,.int .i64 g.aY,.int .i64 g.target,.int .i64 g.turns])) Tryz.underlying28 dP ?_) | (go_at_call 33;refine (HRB.out _ hE).mono ?_;rintro e w13 ⟨A7,c7,rfl,hQ,abC⟩;have hL:=hL.call abC;have hB:=Reads.below hB abC) | (go_at_call 29;refine (abS _ _ _ _ _ _ _ _ _ _ HLI.out.1 (HLI.out.2) _ hB (hQ)).mono ?_;rintro e w14 ⟨rfl,aed⟩;have hL:=hL.call aed))
             go_ret;exact ⟨rfl,hL.bw⟩
           · have hd2:(E != 0)=true:=by simp [h2]
             have HB0:=hide (show bb=if E=0 then [] else [] by rw [HZ3.out,if_neg h2,if_neg h2]);clear h2
             go_wp2_with (first | (go_at_call 29;refine (abS _ _ _ _ _ _ _ _ _ _ rfl (HB0.out) _ hB (Reads.none_ _ (fun _=>True) 1)).mono ?_;rintro e w14 ⟨rfl,aed⟩;have hL:=hL.call aed))
             go_ret;exact ⟨rfl,hL.bw⟩
       · have hd:(E0 != 0)=true:=by simp [h0]
         obtain ⟨z1,z2,z3,z4⟩:=HBAD.out h0;subst z1 z2 z3 z4;have HS:=hide (show E=E∧Sk.zero=if E=0 then Sk.zero else Sk.zero from ⟨rfl,by split <;> rfl⟩);have HB0:=hide (show ([]:List Int)=if E=0 then [] else [] by split <;> rfl);clear h0
         go_wp2_with (first | ((with_reducible refine bJ 26 9 ?_);refine ig (hL.rn 0 0 (aC Sk.zero)) Tryz.underlying26 aj ?_) | (go_at_call 23;refine (JA _ _ _ _ HS.out.1 HS.out.2 _).mono ?_;rintro e w10 ⟨rfl,ac5⟩;have hL:=hL.call ac5;have hB:=Reads.below hB ac5) | (go_at_call 29;refine (abS _ _ _ _ _ _ _ _ _ _ rfl (HB0.out) _ hB (Reads.none_ _ (fun _=>True) 1)).mono ?_;rintro e w14 ⟨rfl,aed⟩;have hL:=hL.call aed))
         go_ret;exact ⟨rfl,hL.bw⟩
end Go.Proofs.YtjbbfmofpjflmaaGreatDoor
