/- Parts of the proofs about chapter 5 (pool), joined by program. -/
import Derived.Test.YtelpepbpdojikaaGreatDoorKg30
set_option maxHeartbeats 8000000
set_option maxRecDepth 100000
set_option linter.unusedVariables false
set_option linter.unusedSimpArgs false
namespace Go.Proofs.YtelpepbpdojikaaGreatDoor
open Go.RowKit
theorem Hf (W:World) (hg:Glob W):Calls Tryz.prog 29 #[.string ⟨#[97,32,112,108,97,121,32,99,53]⟩] W fun e w'=>∃ A c,e= .returned (.tuple #[iO M.blank A c,.int .i64 3,.int .i64 25])∧Below W.heap.size W w':=by
 have:=zS M.VW W hg (by decide)
 rw [M.JV] at this
 refine this.mono ?_
 rintro e w' ⟨A,c,rfl,_,hb⟩
 exact ⟨A,c,rfl,hb⟩
theorem Hg (x:Sh) (hx:x.x=M.Ub) (S:Nat→Prop) (W:World) (hp:jl W S x.a x.c x.x.aA):Calls Tryz.prog 28 #[iO x.x x.a x.c] W fun e w'=>e= .returned (.tuple #[.string ⟨#[98,32,112,108,97,121,32,99,53,47,50,32,102,53,32,43,32,112,53,47,50,32,112,48,47,51]⟩,.int .i64 0])∧Below W.heap.size W w':=by
 have:=zT S x.x x.a x.c W hp
 rw [show M.cZ x.x=0 by rw [hx];exact M.Dy.2,show M.print x.x=[98,32,112,108,97,121,32,99,53,47,50,32,102,53,32,43,32,112,53,47,50,32,112,48,47,51] by rw [hx];exact M.Dy.1] at this
 exact this
theorem Rl (w:World) (HG:Hid (Glob w)) (HN:Hid (OV w)):OU w:=by
 intro _ _ _ _ _ _ _ _ _ _ _ _ _ _ _ _ _ _ _ _ _ _ _ _ _ _ _ _ _ _ _ _ _ _ _ _ _ _ _ _ _ _ _ _ _ _ _ _ _ _ _ _ _ _ _ _ _ _ _ _ _ _ _ _ _ _ _ _ _ _ _ _ _ _ _ _ _ _ _ _ _ _ _ _ _ _ _ _ _ _ _ _ _ _ _ _ _ _ _ _ _ _ _ _ _ _ _ _ _ _ _ _ _ _ _ _ _ _ _ _ _ _ _ _ _ _ _ _ _ _ _ _ _ _ _ _ _ _ _ _ _ _ _ _ _ _ _ _ _ _ _ _ _ _ _ _ _ _ _ _ _ _ _ _ _ _ _ _ _ _ _ _ _ _ _ _ _ _ _ _ _ _ _ _ _ _ _ _ _ _ _ _ _ _ _ _ _ _ _ _ _ _ _ _ _ _ _ _ _ _ _ _ _ _ _ _ _ _ _ _ _ _ _ _ _ _ _ _ _ _ _ _ _ _ _ _ _ _ _ _ _ _ _ _ _ _ _ _ _ _ _ _ _ _ _ _ _ _ _ _ _ _ _ _ _ _ _ _ _ _ _ _ _ W hf
 dsimp only [eG,dQ,Tryz.f17,Option.getD]
 obtain ⟨rfl,rfl,rfl,hR,h17,rfl,h20,rfl,h23,Rw,rfl⟩:=hf
 have hcl:=Hf W (HG.out.below hR.bw)
 have JF:=hide hcl
 clear hcl
 apply wp_seq_k
 intro K hK
 have HK:=hide hK
 clear hK
 go_wp2_with (first | (go_at_call 29;refine JF.out.mono ?_;rintro e w1 ⟨A1,c1,rfl,hb1⟩;have hbx:=Held.new w1 JB 66;dsimp only) | (refine aO 66 (.tmp 26) (.tmp 180) rfl ?_;refine aF hbx (au ⟨M.blank,A1,c1⟩) rfl aV (uq M.blank A1 c1) rfl (.tmp 26) (.tmp 180) rfl rfl rfl ?_))
 have hb2:Below W.heap.size W ((w1.alloc (.cells JB.toArray 66)).setCells w1.heap.size 0 (au ⟨M.blank,A1,c1⟩)):=below_setCells _ hb1.size _ _ _ _ (hb1.alloc hb1.size _)
 refine HK.out _ _ ?_
 apply HN.out
 exact ⟨rfl,rfl,rfl,hR.below hb2,h17.below hb2,rfl,h20.below hb2,rfl,h23.below hb2,Rw.below hb2,rfl,⟨_,A1,c1,rfl,Nat.le_trans hR.sz hb1.size,hbx.whole _ rfl⟩,rfl,rfl⟩
theorem Rn (w:World) (HG:Hid (Glob w)) (HN:Hid (OW w)):OV w:=by
 intro _ _ _ _ _ _ _ _ _ _ _ _ _ _ _ _ _ _ _ _ _ _ _ _ _ _ _ _ _ _ _ _ _ _ _ _ _ _ _ _ _ _ _ _ _ _ _ _ _ _ _ _ _ _ _ _ _ _ _ _ _ _ _ _ _ _ _ _ _ _ _ _ _ _ _ _ _ _ _ _ _ _ _ _ _ _ _ _ _ _ _ _ _ _ _ _ _ _ _ _ _ _ _ _ _ _ _ _ _ _ _ _ _ _ _ _ _ _ _ _ _ _ _ _ _ _ _ _ _ _ _ _ _ _ _ _ _ _ _ _ _ _ _ _ _ _ _ _ _ _ _ _ _ _ _ _ _ _ _ _ _ _ _ _ _ _ _ _ _ _ _ _ _ _ _ _ _ _ _ _ _ _ _ _ _ _ _ _ _ _ _ _ _ _ _ _ _ _ _ _ _ _ _ _ _ _ _ _ _ _ _ _ _ _ _ _ _ _ _ _ _ _ _ _ _ _ _ _ _ _ _ _ _ _ _ _ _ _ _ _ _ _ _ _ _ _ _ _ _ _ _ _ _ _ _ _ _ _ _ _ _ _ _ _ _ _ _ _ _ _ _ _ _ W hf
 dsimp only [eG,dQ,Tryz.f17,Option.getD]
 obtain ⟨rfl,rfl,rfl,hR,h17,rfl,h20,rfl,h23,Rw,rfl,QK,rfl,rfl⟩:=hf
 apply wp_seq_k
 intro K hK
 have HK:=hide hK
 clear hK
 go_wp2_with (first | (go_at_call 62;refine (JU M.O4 M.PK 1 _ M.NV rfl rfl (by omega) (by decide) W _).mono ?_;rintro e w1 ⟨l,A,c,hl,rfl,hr,hb⟩;have hrd:=hr.read (by rw [hl.2];omega);obtain ⟨x6,rfl⟩:=lI hl.2;obtain ⟨b6,o6,rfl,_,hbl,hc6⟩:=Reads.at_ hrd.1 (by simp);have hx6:x6.x=M.Ub:=List.singleton_inj.1 hl.1;have h00:w1.rangeAt b6 o6 (au x6):=(fun j v hj=>hc6 j v (by rw [show bI [x6]=au x6 by simp [bI]];exact hj));have hcl:=Hg x6 hx6 _ w1 (hrd.2 x6 (by simp));have JF:=hide hcl;clear hcl hc6;dsimp only) | (refine aN 66 (.tmp 186) rfl ?_;refine jh (g:=b6) (o:=o6) h00 Tryz.underlying66 rfl aV rfl (.tmp 186) rfl rfl ?_) | (go_at_call 28;refine JF.out.mono ?_;rintro e w2 ⟨rfl,hb2⟩;dsimp only))
 have hbb:=hb.trans (hb2.mono hb.size)
 refine HK.out _ _ ?_
 apply HN.out
 exact ⟨rfl,rfl,rfl,hR.below hbb,h17.below hbb,rfl,h20.below hbb,rfl,h23.below hbb,Rw.below hbb,rfl,QK.below hbb,rfl,rfl,rfl,rfl⟩
theorem Ro (w:World) (HG:Hid (Glob w)):OW w:=by
 intro _ _ _ _ _ _ _ _ _ _ _ _ _ _ _ _ _ _ _ _ _ _ _ _ _ _ _ _ _ _ _ _ _ _ _ _ _ _ _ _ _ _ _ _ _ _ _ _ _ _ _ _ _ _ _ _ _ _ _ _ _ _ _ _ _ _ _ _ _ _ _ _ _ _ _ _ _ _ _ _ _ _ _ _ _ _ _ _ _ _ _ _ _ _ _ _ _ _ _ _ _ _ _ _ _ _ _ _ _ _ _ _ _ _ _ _ _ _ _ _ _ _ _ _ _ _ _ _ _ _ _ _ _ _ _ _ _ _ _ _ _ _ _ _ _ _ _ _ _ _ _ _ _ _ _ _ _ _ _ _ _ _ _ _ _ _ _ _ _ _ _ _ _ _ _ _ _ _ _ _ _ _ _ _ _ _ _ _ _ _ _ _ _ _ _ _ _ _ _ _ _ _ _ _ _ _ _ _ _ _ _ _ _ _ _ _ _ _ _ _ _ _ _ _ _ _ _ _ _ _ _ _ _ _ _ _ _ _ _ _ _ _ _ _ _ _ _ _ _ _ _ _ _ _ _ _ _ _ _ _ _ _ _ _ _ _ _ _ _ _ _ _ _ W hf
 dsimp only [eG,dQ,Tryz.f17,Option.getD]
 obtain ⟨rfl,rfl,rfl,hR,h17,rfl,h20,rfl,h23,Rw,rfl,QK,rfl,rfl,rfl,rfl⟩:=hf
 obtain ⟨VF,Yy,c17,rfl,_,h17⟩:=h17
 obtain ⟨Q5,Yz,c20,rfl,_,h20⟩:=h20
 obtain ⟨TV,WQ,c23,rfl,_,h23⟩:=h23
 obtain ⟨WR,YB,YK,rfl,_,QK⟩:=QK
 obtain ⟨YA,c24,rfl,SB⟩:=Rw
 obtain ⟨VX,WE,rfl,_,Wq,hc24⟩:=Reads.at_ SB (by omega)
 have YI:W.cell? ⟨VF,13,none⟩=some (.bool true):=h17.cell (j:=13) rfl
 have YJ:W.cell? ⟨VF,14,none⟩=some (.int .i64 0):=h17.cell (j:=14) rfl
 have b7:W.cell? ⟨Q5,7,none⟩=some (.int .i64 (-17)):=h20.cell (j:=7) rfl
 have b8:W.cell? ⟨Q5,8,none⟩=some (.int .i64 0):=h20.cell (j:=8) rfl
 have b1:W.cell? ⟨Q5,1,none⟩=some (.bool true):=h20.cell (j:=1) rfl
 have b12:W.cell? ⟨Q5,12,none⟩=some (.int .i64 2):=h20.cell (j:=12) rfl
 have b0:W.cell? ⟨Q5,0,none⟩=some (.int .i64 0):=h20.cell (j:=0) rfl
 have d7:W.cell? ⟨TV,7,none⟩=some (.int .i64 0):=h23.cell (j:=7) rfl
 have d8:W.cell? ⟨TV,8,none⟩=some (.int .i64 0):=h23.cell (j:=8) rfl
 have d2:W.cell? ⟨TV,2,none⟩=some (.bool true):=h23.cell (j:=2) rfl
 have d6:W.cell? ⟨TV,6,none⟩=some (.slice WQ 14 c23):=h23.cell (j:=6) rfl
 have e1:W.cell? ⟨WR,1,none⟩=some (.string ⟨#[]⟩):=QK.cell (j:=1) rfl
 have r0:W.cell? ⟨VX,WE,none⟩=some (.int .i64 3):=hc24 0 _ rfl
 have r1:W.cell? ⟨VX,WE+1,none⟩=some (.int .i64 2):=hc24 1 _ rfl
 have hq1:∀ w',(Op.equalIn 10000 31 (.agg #[.int .i64 (-17),.int .i64 0]) (.agg #[.int .i64 (-17),.int .i64 0])).run Tryz.prog w'= .ok true w':=fun _=>by kernel_rfl
 have hq4:∀ w',(Op.equalIn 10000 31 (.agg #[.int .i64 0,.int .i64 0]) (.agg #[.int .i64 0,.int .i64 0])).run Tryz.prog w'= .ok true w':=fun _=>by kernel_rfl
 have hq2:∀ w',(Op.equalIn 10000 51 (.agg #[.int .i64 3,.int .i64 2]) (.agg #[.int .i64 3,.int .i64 2])).run Tryz.prog w'= .ok true w':=fun _=>by kernel_rfl
 have hg1:Tryz.prog.eqGuardType Tryz.prog.depth 31=false:=by kernel_rfl
 have hg2:Tryz.prog.eqGuardType Tryz.prog.depth 51=false:=by kernel_rfl
 have HR:=hide hR
 clear hc24 SB h17 h20 h23 QK hR
 go_wp2
 go_ret
 exact ⟨rfl,HR.out.bw⟩
theorem Rj (w:World) (HG:Hid (Glob w)) (HN:Hid (OT w)):OQ w:=by
 intro _ _ _ _ _ _ _ _ _ _ _ _ _ _ _ _ _ _ _ _ _ _ _ _ _ _ _ _ _ _ _ _ _ _ _ _ _ _ _ _ _ _ _ _ _ _ _ _ _ _ _ _ _ _ _ _ _ _ _ _ _ _ _ _ _ _ _ _ _ _ _ _ _ _ _ _ _ _ _ _ _ _ _ _ _ _ _ _ _ _ _ _ _ _ _ _ _ _ _ _ _ _ _ _ _ _ _ _ _ _ _ _ _ _ _ _ _ _ _ _ _ _ _ _ _ _ _ _ _ _ _ _ _ _ _ _ _ _ _ _ _ _ _ _ _ _ _ _ _ _ _ _ _ _ _ _ _ _ _ _ _ _ _ _ _ _ _ _ _ _ _ _ _ _ _ _ _ _ _ _ _ _ _ _ _ _ _ _ _ _ _ _ _ _ _ _ _ _ _ _ _ _ _ _ _ _ _ _ _ _ _ _ _ _ _ _ _ _ _ _ _ _ _ _ _ _ _ _ _ _ _ _ _ _ _ _ _ _ _ _ _ _ _ _ _ _ _ _ _ _ _ _ _ _ _ _ _ _ _ _ _ _ _ _ _ _ _ _ _ _ _ _ _ W hf
 dsimp only [eG,dQ,Tryz.f17,Option.getD]
 obtain ⟨rfl,rfl,rfl,hR,h17,rfl⟩:=hf
 have uG:∀ W',(fun w':World=>Below W.heap.size W w') W'→W'.rangeAt (w.heap.size+2) 0 ([.string M.aB,.int .i64 2,.int .i64 2]):=fun W' h=>(hR.s.below h).range
 apply wp_seq_k
 intro K hK
 have HK:=hide hK
 clear hK
 refine wp_region_held_drew (S:=(fun w':World=>Below W.heap.size W w')) (by kernel_rfl) ?jw (fun hHeld=>?_)
 case jw=>exact (Below.refl _ _).drew
 refine wpAnyH_take (i:=0) (oi:=_) (v:=_) (ga rfl) (by kernel_rfl) (by kernel_rfl) (by kernel_rfl) (fun _ _ _ h=>h) (yieldsIf_load_mid (by rfl) _ _ (by rfl) _ _ (by rfl) _ _ uG Tryz.underlying23 rfl (by kernel_rfl)) (by assumption) ?_
 try simp only [Act.put,la,lz,ls]
 refine wpAnyH_ready (rs:=[1,8]) (by kernel_rfl) (by simp) ?_
 refine AllReadyH.cons (o:=_) (ga rfl) (fun K hK=>?_) (AllReadyH.cons (o:=_) (ga rfl) (fun K hK=>?_) AllReadyH.nil)
 · go_simp
   refine hK.out _ _ ?LH (fun hHeld=>?_)
   case LH=>(exact Below.alloc hHeld hHeld.size _)
   clear hK K
   try simp only [Act.put,la,lz,ls]
   refine wpAnyH_ready (rs:=[2,8]) (by kernel_rfl) (by simp) ?_
   refine AllReadyH.cons (o:=_) (ga rfl) (fun K hK=>?_) (AllReadyH.cons (o:=_) (ga rfl) (fun K hK=>?_) AllReadyH.nil)
   · go_simp
     first | (go_at_call 62;refine (dI M.xO M.Aj 3 M.tH rfl (by omega) (by decide) (by first | exact Reads.dV _ _ 3 1 _ rfl (by omega) (fun _=>True) trivial | exact Reads.alloc (Reads.dV _ _ 3 1 _ rfl (by omega) (fun _=>True) trivial) _ | exact Reads.drew (Reads.newAt _ _ 3 1 _ _ rfl (by omega) (fun _=>True) trivial (by simp)) | exact Reads.drew (Reads.alloc (Reads.newAt _ _ 3 1 _ _ rfl (by omega) (fun _=>True) trivial rfl) _))).mono ?_;rintro e w6 ⟨l6,A6,c6,iQ,rfl,kP,hb6⟩;have iR:W.heap.size≤w6.heap.size:=Nat.le_trans hHeld.size hb6.size;have dD:=(kP.read (by rw [iQ.2];omega)).more (S':=fun _=>True) (fun _ _ _=>trivial)) | (go_at_call 18;refine (cO (S:=fun _=>True) M.vG M.bV.2.2 M.dn.2.2.2.1 M.lW iQ (by first | exact dD | exact dD.below ((Below.refl _ _).alloc (Nat.le_refl _) _))).mono ?_;rintro e w8 ⟨A8,c8,A9,k9,c9,rfl,hb8⟩;have iY:W.heap.size≤w8.heap.size:=Nat.le_trans hHeld.size hb8.size)
     refine hK.out _ _ ?LJ (fun hHeld=>?_)
     case LJ=>(exact hHeld.trans (hb6.mono hHeld.size))
     clear hK K
     try simp only [Act.put,la,lz,ls]
     refine wpAnyH_ready (rs:=[3,8]) (by kernel_rfl) (by simp) ?_
     refine AllReadyH.cons (o:=_) (ga rfl) (fun K hK=>?_) (AllReadyH.cons (o:=_) (ga rfl) (fun K hK=>?_) AllReadyH.nil)
     · go_simp
       first | (go_at_call 62;refine (dI M.xO M.Aj 3 M.tH rfl (by omega) (by decide) (by first | exact Reads.dV _ _ 3 1 _ rfl (by omega) (fun _=>True) trivial | exact Reads.alloc (Reads.dV _ _ 3 1 _ rfl (by omega) (fun _=>True) trivial) _ | exact Reads.drew (Reads.newAt _ _ 3 1 _ _ rfl (by omega) (fun _=>True) trivial (by simp)) | exact Reads.drew (Reads.alloc (Reads.newAt _ _ 3 1 _ _ rfl (by omega) (fun _=>True) trivial rfl) _))).mono ?_;rintro e w6 ⟨l6,A6,c6,iQ,rfl,kP,hb6⟩;have iR:W.heap.size≤w6.heap.size:=Nat.le_trans hHeld.size hb6.size;have dD:=(kP.read (by rw [iQ.2];omega)).more (S':=fun _=>True) (fun _ _ _=>trivial)) | (go_at_call 18;refine (cO (S:=fun _=>True) M.vG M.bV.2.2 M.dn.2.2.2.1 M.lW iQ (by first | exact dD | exact dD.below ((Below.refl _ _).alloc (Nat.le_refl _) _))).mono ?_;rintro e w8 ⟨A8,c8,A9,k9,c9,rfl,hb8⟩;have iY:W.heap.size≤w8.heap.size:=Nat.le_trans hHeld.size hb8.size)
       refine hK.out _ _ ?LM (fun hHeld=>?_)
       case LM=>(exact hHeld.trans (hb8.mono hHeld.size))
       clear hK K
       try simp only [Act.put,la,lz,ls]
       refine tk 4 ?_
       refine tk 5 ?_
       refine tk 6 ?_
       refine tk 7 ?_
       refine tr 8 fun K hK=>?_
       go_simp
       refine hK.out _ _ ?LV (fun hHeld=>?_)
       case LV=>(exact Below.alloc hHeld hHeld.size _)
       clear hK K
       try simp only [Act.put,la,lz,ls]
       refine tr 9 fun K hK=>?_
       refine bF (cs:=aj) (by first | exact Held.new _ aj 33 | exact (Held.new w6 aj 33).below hb8 | exact ((Held.newAt _ aj 33 (by simp)).drew.below hb6).below hb8 | exact (((Held.newAt _ aj 33 rfl).alloc _).drew.below hb6).below hb8) (aW M.vG A8 c8) rfl bW (dL _ _ _) (.tmp 20) (.tmp 167) rfl rfl rfl ?_
       refine hK.out _ _ ?LY (fun hHeld=>?_)
       case LY=>(exact below_setCells _ (by first | exact Nat.le_refl _ | exact iR | exact iY | exact Nat.le_succ _) _ _ _ _ hHeld)
       clear hK K
       try simp only [Act.put,la,lz,ls]
       refine tk 10 ?_
       refine tk 11 ?_
       refine wpAnyH_done (by kernel_rfl) ?_ _
       refine HK.out _ _ ?_
       apply HN.out
       refine ⟨rfl,rfl,rfl,hR.below hHeld,h17.below hHeld,rfl,?_,rfl⟩
       · refine ⟨_,A8,c8,rfl,?_,?_⟩
         · refine Nat.le_trans hR.sz ?_
           first | exact iR | exact iY | exact Nat.le_refl _ | exact Nat.le_succ _
         · refine Held.whole (cs:=aj) ?_ _ rfl
           first | exact Held.new _ aj 33 | exact (Held.new w6 aj 33).below hb8 | exact ((Held.newAt _ aj 33 (by simp)).drew.below hb6).below hb8 | exact (((Held.newAt _ aj 33 rfl).alloc _).drew.below hb6).below hb8
     · go_simp
       refine hK.out _ _ ?LW (fun hHeld=>?_)
       case LW=>(exact Below.alloc hHeld hHeld.size _)
       clear hK K
       try simp only [Act.put,la,lz,ls]
       refine tr 3 fun K hK=>?_
       go_simp
       first | (go_at_call 62;refine (dI M.xO M.Aj 3 M.tH rfl (by omega) (by decide) (by first | exact Reads.dV _ _ 3 1 _ rfl (by omega) (fun _=>True) trivial | exact Reads.alloc (Reads.dV _ _ 3 1 _ rfl (by omega) (fun _=>True) trivial) _ | exact Reads.drew (Reads.newAt _ _ 3 1 _ _ rfl (by omega) (fun _=>True) trivial (by simp)) | exact Reads.drew (Reads.alloc (Reads.newAt _ _ 3 1 _ _ rfl (by omega) (fun _=>True) trivial rfl) _))).mono ?_;rintro e w6 ⟨l6,A6,c6,iQ,rfl,kP,hb6⟩;have iR:W.heap.size≤w6.heap.size:=Nat.le_trans hHeld.size hb6.size;have dD:=(kP.read (by rw [iQ.2];omega)).more (S':=fun _=>True) (fun _ _ _=>trivial)) | (go_at_call 18;refine (cO (S:=fun _=>True) M.vG M.bV.2.2 M.dn.2.2.2.1 M.lW iQ (by first | exact dD | exact dD.below ((Below.refl _ _).alloc (Nat.le_refl _) _))).mono ?_;rintro e w8 ⟨A8,c8,A9,k9,c9,rfl,hb8⟩;have iY:W.heap.size≤w8.heap.size:=Nat.le_trans hHeld.size hb8.size)
       refine hK.out _ _ ?LP (fun hHeld=>?_)
       case LP=>(exact hHeld.trans (hb8.mono hHeld.size))
       clear hK K
       try simp only [Act.put,la,lz,ls]
       refine tk 4 ?_
       refine tk 5 ?_
       refine tk 6 ?_
       refine tk 7 ?_
       refine tr 9 fun K hK=>?_
       refine bF (cs:=aj) (by first | exact Held.new _ aj 33 | exact (Held.new w6 aj 33).below hb8 | exact ((Held.newAt _ aj 33 (by simp)).drew.below hb6).below hb8 | exact (((Held.newAt _ aj 33 rfl).alloc _).drew.below hb6).below hb8) (aW M.vG A8 c8) rfl bW (dL _ _ _) (.tmp 20) (.tmp 167) rfl rfl rfl ?_
       refine hK.out _ _ ?LZ (fun hHeld=>?_)
       case LZ=>(exact below_setCells _ (by first | exact Nat.le_refl _ | exact iR | exact iY | exact Nat.le_succ _) _ _ _ _ hHeld)
       clear hK K
       try simp only [Act.put,la,lz,ls]
       refine tk 10 ?_
       refine tk 11 ?_
       refine wpAnyH_done (by kernel_rfl) ?_ _
       refine HK.out _ _ ?_
       apply HN.out
       refine ⟨rfl,rfl,rfl,hR.below hHeld,h17.below hHeld,rfl,?_,rfl⟩
       · refine ⟨_,A8,c8,rfl,?_,?_⟩
         · refine Nat.le_trans hR.sz ?_
           first | exact iR | exact iY | exact Nat.le_refl _ | exact Nat.le_succ _
         · refine Held.whole (cs:=aj) ?_ _ rfl
           first | exact Held.new _ aj 33 | exact (Held.new w6 aj 33).below hb8 | exact ((Held.newAt _ aj 33 (by simp)).drew.below hb6).below hb8 | exact (((Held.newAt _ aj 33 rfl).alloc _).drew.below hb6).below hb8
   · go_simp
     refine hK.out _ _ ?LX (fun hHeld=>?_)
     case LX=>(exact Below.alloc hHeld hHeld.size _)
     clear hK K
     try simp only [Act.put,la,lz,ls]
     refine tr 2 fun K hK=>?_
     go_simp
     first | (go_at_call 62;refine (dI M.xO M.Aj 3 M.tH rfl (by omega) (by decide) (by first | exact Reads.dV _ _ 3 1 _ rfl (by omega) (fun _=>True) trivial | exact Reads.alloc (Reads.dV _ _ 3 1 _ rfl (by omega) (fun _=>True) trivial) _ | exact Reads.drew (Reads.newAt _ _ 3 1 _ _ rfl (by omega) (fun _=>True) trivial (by simp)) | exact Reads.drew (Reads.alloc (Reads.newAt _ _ 3 1 _ _ rfl (by omega) (fun _=>True) trivial rfl) _))).mono ?_;rintro e w6 ⟨l6,A6,c6,iQ,rfl,kP,hb6⟩;have iR:W.heap.size≤w6.heap.size:=Nat.le_trans hHeld.size hb6.size;have dD:=(kP.read (by rw [iQ.2];omega)).more (S':=fun _=>True) (fun _ _ _=>trivial)) | (go_at_call 18;refine (cO (S:=fun _=>True) M.vG M.bV.2.2 M.dn.2.2.2.1 M.lW iQ (by first | exact dD | exact dD.below ((Below.refl _ _).alloc (Nat.le_refl _) _))).mono ?_;rintro e w8 ⟨A8,c8,A9,k9,c9,rfl,hb8⟩;have iY:W.heap.size≤w8.heap.size:=Nat.le_trans hHeld.size hb8.size)
     refine hK.out _ _ ?LK (fun hHeld=>?_)
     case LK=>(exact hHeld.trans (hb6.mono hHeld.size))
     clear hK K
     try simp only [Act.put,la,lz,ls]
     refine tr 3 fun K hK=>?_
     go_simp
     first | (go_at_call 62;refine (dI M.xO M.Aj 3 M.tH rfl (by omega) (by decide) (by first | exact Reads.dV _ _ 3 1 _ rfl (by omega) (fun _=>True) trivial | exact Reads.alloc (Reads.dV _ _ 3 1 _ rfl (by omega) (fun _=>True) trivial) _ | exact Reads.drew (Reads.newAt _ _ 3 1 _ _ rfl (by omega) (fun _=>True) trivial (by simp)) | exact Reads.drew (Reads.alloc (Reads.newAt _ _ 3 1 _ _ rfl (by omega) (fun _=>True) trivial rfl) _))).mono ?_;rintro e w6 ⟨l6,A6,c6,iQ,rfl,kP,hb6⟩;have iR:W.heap.size≤w6.heap.size:=Nat.le_trans hHeld.size hb6.size;have dD:=(kP.read (by rw [iQ.2];omega)).more (S':=fun _=>True) (fun _ _ _=>trivial)) | (go_at_call 18;refine (cO (S:=fun _=>True) M.vG M.bV.2.2 M.dn.2.2.2.1 M.lW iQ (by first | exact dD | exact dD.below ((Below.refl _ _).alloc (Nat.le_refl _) _))).mono ?_;rintro e w8 ⟨A8,c8,A9,k9,c9,rfl,hb8⟩;have iY:W.heap.size≤w8.heap.size:=Nat.le_trans hHeld.size hb8.size)
     refine hK.out _ _ ?LQ (fun hHeld=>?_)
     case LQ=>(exact hHeld.trans (hb8.mono hHeld.size))
     clear hK K
     try simp only [Act.put,la,lz,ls]
     refine tk 4 ?_
     refine tk 5 ?_
     refine tk 6 ?_
     refine tk 7 ?_
     refine tr 9 fun K hK=>?_
     refine bF (cs:=aj) (by first | exact Held.new _ aj 33 | exact (Held.new w6 aj 33).below hb8 | exact ((Held.newAt _ aj 33 (by simp)).drew.below hb6).below hb8 | exact (((Held.newAt _ aj 33 rfl).alloc _).drew.below hb6).below hb8) (aW M.vG A8 c8) rfl bW (dL _ _ _) (.tmp 20) (.tmp 167) rfl rfl rfl ?_
     refine hK.out _ _ ?L6 (fun hHeld=>?_)
     case L6=>(exact below_setCells _ (by first | exact Nat.le_refl _ | exact iR | exact iY | exact Nat.le_succ _) _ _ _ _ hHeld)
     clear hK K
     try simp only [Act.put,la,lz,ls]
     refine tk 10 ?_
     refine tk 11 ?_
     refine wpAnyH_done (by kernel_rfl) ?_ _
     refine HK.out _ _ ?_
     apply HN.out
     refine ⟨rfl,rfl,rfl,hR.below hHeld,h17.below hHeld,rfl,?_,rfl⟩
     · refine ⟨_,A8,c8,rfl,?_,?_⟩
       · refine Nat.le_trans hR.sz ?_
         first | exact iR | exact iY | exact Nat.le_refl _ | exact Nat.le_succ _
       · refine Held.whole (cs:=aj) ?_ _ rfl
         first | exact Held.new _ aj 33 | exact (Held.new w6 aj 33).below hb8 | exact ((Held.newAt _ aj 33 (by simp)).drew.below hb6).below hb8 | exact (((Held.newAt _ aj 33 rfl).alloc _).drew.below hb6).below hb8
 · go_simp
   refine hK.out _ _ ?Jb (fun hHeld=>?_)
   case Jb=>(exact Below.alloc hHeld hHeld.size _)
   clear hK K
   try simp only [Act.put,la,lz,ls]
   refine tr 1 fun K hK=>?_
   go_simp
   refine hK.out _ _ ?I8 (fun hHeld=>?_)
   case I8=>(exact Below.alloc hHeld hHeld.size _)
   clear hK K
   try simp only [Act.put,la,lz,ls]
   refine tr 2 fun K hK=>?_
   go_simp
   first | (go_at_call 62;refine (dI M.xO M.Aj 3 M.tH rfl (by omega) (by decide) (by first | exact Reads.dV _ _ 3 1 _ rfl (by omega) (fun _=>True) trivial | exact Reads.alloc (Reads.dV _ _ 3 1 _ rfl (by omega) (fun _=>True) trivial) _ | exact Reads.drew (Reads.newAt _ _ 3 1 _ _ rfl (by omega) (fun _=>True) trivial (by simp)) | exact Reads.drew (Reads.alloc (Reads.newAt _ _ 3 1 _ _ rfl (by omega) (fun _=>True) trivial rfl) _))).mono ?_;rintro e w6 ⟨l6,A6,c6,iQ,rfl,kP,hb6⟩;have iR:W.heap.size≤w6.heap.size:=Nat.le_trans hHeld.size hb6.size;have dD:=(kP.read (by rw [iQ.2];omega)).more (S':=fun _=>True) (fun _ _ _=>trivial)) | (go_at_call 18;refine (cO (S:=fun _=>True) M.vG M.bV.2.2 M.dn.2.2.2.1 M.lW iQ (by first | exact dD | exact dD.below ((Below.refl _ _).alloc (Nat.le_refl _) _))).mono ?_;rintro e w8 ⟨A8,c8,A9,k9,c9,rfl,hb8⟩;have iY:W.heap.size≤w8.heap.size:=Nat.le_trans hHeld.size hb8.size)
   refine hK.out _ _ ?I9 (fun hHeld=>?_)
   case I9=>(exact hHeld.trans (hb6.mono hHeld.size))
   clear hK K
   try simp only [Act.put,la,lz,ls]
   refine tr 3 fun K hK=>?_
   go_simp
   first | (go_at_call 62;refine (dI M.xO M.Aj 3 M.tH rfl (by omega) (by decide) (by first | exact Reads.dV _ _ 3 1 _ rfl (by omega) (fun _=>True) trivial | exact Reads.alloc (Reads.dV _ _ 3 1 _ rfl (by omega) (fun _=>True) trivial) _ | exact Reads.drew (Reads.newAt _ _ 3 1 _ _ rfl (by omega) (fun _=>True) trivial (by simp)) | exact Reads.drew (Reads.alloc (Reads.newAt _ _ 3 1 _ _ rfl (by omega) (fun _=>True) trivial rfl) _))).mono ?_;rintro e w6 ⟨l6,A6,c6,iQ,rfl,kP,hb6⟩;have iR:W.heap.size≤w6.heap.size:=Nat.le_trans hHeld.size hb6.size;have dD:=(kP.read (by rw [iQ.2];omega)).more (S':=fun _=>True) (fun _ _ _=>trivial)) | (go_at_call 18;refine (cO (S:=fun _=>True) M.vG M.bV.2.2 M.dn.2.2.2.1 M.lW iQ (by first | exact dD | exact dD.below ((Below.refl _ _).alloc (Nat.le_refl _) _))).mono ?_;rintro e w8 ⟨A8,c8,A9,k9,c9,rfl,hb8⟩;have iY:W.heap.size≤w8.heap.size:=Nat.le_trans hHeld.size hb8.size)
   refine hK.out _ _ ?Ja (fun hHeld=>?_)
   case Ja=>(exact hHeld.trans (hb8.mono hHeld.size))
   clear hK K
   try simp only [Act.put,la,lz,ls]
   refine tk 4 ?_
   refine tk 5 ?_
   refine tk 6 ?_
   refine tk 7 ?_
   refine tr 9 fun K hK=>?_
   refine bF (cs:=aj) (by first | exact Held.new _ aj 33 | exact (Held.new w6 aj 33).below hb8 | exact ((Held.newAt _ aj 33 (by simp)).drew.below hb6).below hb8 | exact (((Held.newAt _ aj 33 rfl).alloc _).drew.below hb6).below hb8) (aW M.vG A8 c8) rfl bW (dL _ _ _) (.tmp 20) (.tmp 167) rfl rfl rfl ?_
   refine hK.out _ _ ?Jc (fun hHeld=>?_)
   case Jc=>(exact below_setCells _ (by first | exact Nat.le_refl _ | exact iR | exact iY | exact Nat.le_succ _) _ _ _ _ hHeld)
   clear hK K
   try simp only [Act.put,la,lz,ls]
   refine tk 10 ?_
   refine tk 11 ?_
   refine wpAnyH_done (by kernel_rfl) ?_ _
   refine HK.out _ _ ?_
   apply HN.out
   refine ⟨rfl,rfl,rfl,hR.below hHeld,h17.below hHeld,rfl,?_,rfl⟩
   · refine ⟨_,A8,c8,rfl,?_,?_⟩
     · refine Nat.le_trans hR.sz ?_
       first | exact iR | exact iY | exact Nat.le_refl _ | exact Nat.le_succ _
     · refine Held.whole (cs:=aj) ?_ _ rfl
       first | exact Held.new _ aj 33 | exact (Held.new w6 aj 33).below hb8 | exact ((Held.newAt _ aj 33 (by simp)).drew.below hb6).below hb8 | exact (((Held.newAt _ aj 33 rfl).alloc _).drew.below hb6).below hb8
theorem Rk (w:World) (HG:Hid (Glob w)) (HN:Hid (OU w)):OT w:=by
 intro _ _ _ _ _ _ _ _ _ _ _ _ _ _ _ _ _ _ _ _ _ _ _ _ _ _ _ _ _ _ _ _ _ _ _ _ _ _ _ _ _ _ _ _ _ _ _ _ _ _ _ _ _ _ _ _ _ _ _ _ _ _ _ _ _ _ _ _ _ _ _ _ _ _ _ _ _ _ _ _ _ _ _ _ _ _ _ _ _ _ _ _ _ _ _ _ _ _ _ _ _ _ _ _ _ _ _ _ _ _ _ _ _ _ _ _ _ _ _ _ _ _ _ _ _ _ _ _ _ _ _ _ _ _ _ _ _ _ _ _ _ _ _ _ _ _ _ _ _ _ _ _ _ _ _ _ _ _ _ _ _ _ _ _ _ _ _ _ _ _ _ _ _ _ _ _ _ _ _ _ _ _ _ _ _ _ _ _ _ _ _ _ _ _ _ _ _ _ _ _ _ _ _ _ _ _ _ _ _ _ _ _ _ _ _ _ _ _ _ _ _ _ _ _ _ _ _ _ _ _ _ _ _ _ _ _ _ _ _ _ _ _ _ _ _ _ _ _ _ _ _ _ _ _ _ _ _ _ _ _ _ _ _ _ _ _ _ _ _ _ _ _ _ W hf
 dsimp only [eG,dQ,Tryz.f17,Option.getD]
 obtain ⟨rfl,rfl,rfl,hR,h17,rfl,h20,rfl⟩:=hf
 have uG:∀ W',(fun w':World=>Below W.heap.size W w') W'→W'.rangeAt (w.heap.size+2) 0 ([.string M.aB,.int .i64 2,.int .i64 2]):=fun W' h=>(hR.s.below h).range
 apply wp_seq_k
 intro K hK
 have HK:=hide hK
 clear hK
 refine wp_region_held_drew (S:=(fun w':World=>Below W.heap.size W w')) (by kernel_rfl) ?lJ (fun hHeld=>?_)
 case lJ=>exact (Below.refl _ _).drew
 refine wpAnyH_take (i:=0) (oi:=_) (v:=_) (ga rfl) (by kernel_rfl) (by kernel_rfl) (by kernel_rfl) (fun _ _ _ h=>h) (yieldsIf_load_mid (by rfl) _ _ (by rfl) _ _ (by rfl) _ _ uG Tryz.underlying23 rfl (by kernel_rfl)) (by assumption) ?_
 try simp only [Act.put,la,lz,ls]
 refine wpAnyH_ready (rs:=[1,8]) (by kernel_rfl) (by simp) ?_
 refine AllReadyH.cons (o:=_) (ga rfl) (fun K hK=>?_) (AllReadyH.cons (o:=_) (ga rfl) (fun K hK=>?_) AllReadyH.nil)
 · go_simp
   refine hK.out _ _ ?L8 (fun hHeld=>?_)
   case L8=>(exact Below.alloc hHeld hHeld.size _)
   clear hK K
   try simp only [Act.put,la,lz,ls]
   refine wpAnyH_ready (rs:=[2,8]) (by kernel_rfl) (by simp) ?_
   refine AllReadyH.cons (o:=_) (ga rfl) (fun K hK=>?_) (AllReadyH.cons (o:=_) (ga rfl) (fun K hK=>?_) AllReadyH.nil)
   · go_simp
     first | (go_at_call 62;refine (dI M.xP M.yS 4 M.tJ rfl (by omega) (by decide) (by first | exact Reads.dV _ _ 4 1 _ rfl (by omega) (fun _=>True) trivial | exact Reads.alloc (Reads.dV _ _ 4 1 _ rfl (by omega) (fun _=>True) trivial) _ | exact Reads.drew (Reads.newAt _ _ 4 1 _ _ rfl (by omega) (fun _=>True) trivial (by simp)) | exact Reads.drew (Reads.alloc (Reads.newAt _ _ 4 1 _ _ rfl (by omega) (fun _=>True) trivial rfl) _))).mono ?_;rintro e w6 ⟨l6,A6,c6,iQ,rfl,kP,hb6⟩;have iR:W.heap.size≤w6.heap.size:=Nat.le_trans hHeld.size hb6.size;have dD:=(kP.read (by rw [iQ.2];omega)).more (S':=fun _=>True) (fun _ _ _=>trivial)) | (go_at_call 18;refine (jX (S:=fun _=>True) M.vP [⟨3,2⟩] M.bV.2.2 M.dn.2.2.2.2.1 M.lX M.tK iQ (by first | exact dD | exact dD.below ((Below.refl _ _).alloc (Nat.le_refl _) _))).mono ?_;rintro e w8 ⟨A8,c8,A9,c9,rfl,_,hq8,hb8⟩;have iY:W.heap.size≤w8.heap.size:=Nat.le_trans hHeld.size hb8.size)
     refine hK.out _ _ ?L9 (fun hHeld=>?_)
     case L9=>(exact hHeld.trans (hb6.mono hHeld.size))
     clear hK K
     try simp only [Act.put,la,lz,ls]
     refine wpAnyH_ready (rs:=[3,8]) (by kernel_rfl) (by simp) ?_
     refine AllReadyH.cons (o:=_) (ga rfl) (fun K hK=>?_) (AllReadyH.cons (o:=_) (ga rfl) (fun K hK=>?_) AllReadyH.nil)
     · go_simp
       first | (go_at_call 62;refine (dI M.xP M.yS 4 M.tJ rfl (by omega) (by decide) (by first | exact Reads.dV _ _ 4 1 _ rfl (by omega) (fun _=>True) trivial | exact Reads.alloc (Reads.dV _ _ 4 1 _ rfl (by omega) (fun _=>True) trivial) _ | exact Reads.drew (Reads.newAt _ _ 4 1 _ _ rfl (by omega) (fun _=>True) trivial (by simp)) | exact Reads.drew (Reads.alloc (Reads.newAt _ _ 4 1 _ _ rfl (by omega) (fun _=>True) trivial rfl) _))).mono ?_;rintro e w6 ⟨l6,A6,c6,iQ,rfl,kP,hb6⟩;have iR:W.heap.size≤w6.heap.size:=Nat.le_trans hHeld.size hb6.size;have dD:=(kP.read (by rw [iQ.2];omega)).more (S':=fun _=>True) (fun _ _ _=>trivial)) | (go_at_call 18;refine (jX (S:=fun _=>True) M.vP [⟨3,2⟩] M.bV.2.2 M.dn.2.2.2.2.1 M.lX M.tK iQ (by first | exact dD | exact dD.below ((Below.refl _ _).alloc (Nat.le_refl _) _))).mono ?_;rintro e w8 ⟨A8,c8,A9,c9,rfl,_,hq8,hb8⟩;have iY:W.heap.size≤w8.heap.size:=Nat.le_trans hHeld.size hb8.size)
       refine hK.out _ _ ?Md (fun hHeld=>?_)
       case Md=>(exact hHeld.trans (hb8.mono hHeld.size))
       clear hK K
       try simp only [Act.put,la,lz,ls]
       refine tk 4 ?_
       refine tk 5 ?_
       refine tk 6 ?_
       refine tk 7 ?_
       refine tr 8 fun K hK=>?_
       go_simp
       refine hK.out _ _ ?MG (fun hHeld=>?_)
       case MG=>(exact Below.alloc hHeld hHeld.size _)
       clear hK K
       try simp only [Act.put,la,lz,ls]
       refine tr 9 fun K hK=>?_
       refine bF (cs:=aj) (by first | exact Held.new _ aj 33 | exact (Held.new w6 aj 33).below hb8 | exact ((Held.newAt _ aj 33 (by simp)).drew.below hb6).below hb8 | exact (((Held.newAt _ aj 33 rfl).alloc _).drew.below hb6).below hb8) (aW M.vP A8 c8) rfl bW (dL _ _ _) (.tmp 23) (.tmp 175) rfl rfl rfl ?_
       refine hK.out _ _ ?zU (fun hHeld=>?_)
       case zU=>(exact below_setCells _ (by first | exact Nat.le_refl _ | exact iR | exact iY | exact Nat.le_succ _) _ _ _ _ hHeld)
       clear hK K
       try simp only [Act.put,la,lz,ls]
       refine tk 10 ?_
       refine tk 11 ?_
       refine wpAnyH_done (by kernel_rfl) ?_ _
       refine HK.out _ _ ?_
       apply HN.out
       refine ⟨rfl,rfl,rfl,hR.below hHeld,h17.below hHeld,rfl,h20.below hHeld,rfl,?_,?_,rfl⟩
       · refine ⟨_,A8,c8,rfl,?_,?_⟩
         · refine Nat.le_trans hR.sz ?_
           first | exact iR | exact iY | exact Nat.le_refl _ | exact Nat.le_succ _
         · refine Held.whole (cs:=aj) ?_ _ rfl
           first | exact Held.new _ aj 33 | exact (Held.new w6 aj 33).below hb8 | exact ((Held.newAt _ aj 33 (by simp)).drew.below hb6).below hb8 | exact (((Held.newAt _ aj 33 rfl).alloc _).drew.below hb6).below hb8
       · exact ⟨A9,c9,rfl,Reads.more (Reads.over hq8 (by first | exact Below.refl _ _ | exact (Below.refl _ _).alloc (Nat.le_refl _) _) (fun b hl h e=>by have hs6:=hb6.size;(try simp at hs6);(try simp at h);omega)) (fun b _ h=>by have:=hR.sz;(try simp at h);show w.heap.size+3≤b;omega)⟩
     · go_simp
       refine hK.out _ _ ?MH (fun hHeld=>?_)
       case MH=>(exact Below.alloc hHeld hHeld.size _)
       clear hK K
       try simp only [Act.put,la,lz,ls]
       refine tr 3 fun K hK=>?_
       go_simp
       first | (go_at_call 62;refine (dI M.xP M.yS 4 M.tJ rfl (by omega) (by decide) (by first | exact Reads.dV _ _ 4 1 _ rfl (by omega) (fun _=>True) trivial | exact Reads.alloc (Reads.dV _ _ 4 1 _ rfl (by omega) (fun _=>True) trivial) _ | exact Reads.drew (Reads.newAt _ _ 4 1 _ _ rfl (by omega) (fun _=>True) trivial (by simp)) | exact Reads.drew (Reads.alloc (Reads.newAt _ _ 4 1 _ _ rfl (by omega) (fun _=>True) trivial rfl) _))).mono ?_;rintro e w6 ⟨l6,A6,c6,iQ,rfl,kP,hb6⟩;have iR:W.heap.size≤w6.heap.size:=Nat.le_trans hHeld.size hb6.size;have dD:=(kP.read (by rw [iQ.2];omega)).more (S':=fun _=>True) (fun _ _ _=>trivial)) | (go_at_call 18;refine (jX (S:=fun _=>True) M.vP [⟨3,2⟩] M.bV.2.2 M.dn.2.2.2.2.1 M.lX M.tK iQ (by first | exact dD | exact dD.below ((Below.refl _ _).alloc (Nat.le_refl _) _))).mono ?_;rintro e w8 ⟨A8,c8,A9,c9,rfl,_,hq8,hb8⟩;have iY:W.heap.size≤w8.heap.size:=Nat.le_trans hHeld.size hb8.size)
       refine hK.out _ _ ?Me (fun hHeld=>?_)
       case Me=>(exact hHeld.trans (hb8.mono hHeld.size))
       clear hK K
       try simp only [Act.put,la,lz,ls]
       refine tk 4 ?_
       refine tk 5 ?_
       refine tk 6 ?_
       refine tk 7 ?_
       refine tr 9 fun K hK=>?_
       refine bF (cs:=aj) (by first | exact Held.new _ aj 33 | exact (Held.new w6 aj 33).below hb8 | exact ((Held.newAt _ aj 33 (by simp)).drew.below hb6).below hb8 | exact (((Held.newAt _ aj 33 rfl).alloc _).drew.below hb6).below hb8) (aW M.vP A8 c8) rfl bW (dL _ _ _) (.tmp 23) (.tmp 175) rfl rfl rfl ?_
       refine hK.out _ _ ?MK (fun hHeld=>?_)
       case MK=>(exact below_setCells _ (by first | exact Nat.le_refl _ | exact iR | exact iY | exact Nat.le_succ _) _ _ _ _ hHeld)
       clear hK K
       try simp only [Act.put,la,lz,ls]
       refine tk 10 ?_
       refine tk 11 ?_
       refine wpAnyH_done (by kernel_rfl) ?_ _
       refine HK.out _ _ ?_
       apply HN.out
       refine ⟨rfl,rfl,rfl,hR.below hHeld,h17.below hHeld,rfl,h20.below hHeld,rfl,?_,?_,rfl⟩
       · refine ⟨_,A8,c8,rfl,?_,?_⟩
         · refine Nat.le_trans hR.sz ?_
           first | exact iR | exact iY | exact Nat.le_refl _ | exact Nat.le_succ _
         · refine Held.whole (cs:=aj) ?_ _ rfl
           first | exact Held.new _ aj 33 | exact (Held.new w6 aj 33).below hb8 | exact ((Held.newAt _ aj 33 (by simp)).drew.below hb6).below hb8 | exact (((Held.newAt _ aj 33 rfl).alloc _).drew.below hb6).below hb8
       · exact ⟨A9,c9,rfl,Reads.more (Reads.over hq8 (by first | exact Below.refl _ _ | exact (Below.refl _ _).alloc (Nat.le_refl _) _) (fun b hl h e=>by have hs6:=hb6.size;(try simp at hs6);(try simp at h);omega)) (fun b _ h=>by have:=hR.sz;(try simp at h);show w.heap.size+3≤b;omega)⟩
   · go_simp
     refine hK.out _ _ ?MI (fun hHeld=>?_)
     case MI=>(exact Below.alloc hHeld hHeld.size _)
     clear hK K
     try simp only [Act.put,la,lz,ls]
     refine tr 2 fun K hK=>?_
     go_simp
     first | (go_at_call 62;refine (dI M.xP M.yS 4 M.tJ rfl (by omega) (by decide) (by first | exact Reads.dV _ _ 4 1 _ rfl (by omega) (fun _=>True) trivial | exact Reads.alloc (Reads.dV _ _ 4 1 _ rfl (by omega) (fun _=>True) trivial) _ | exact Reads.drew (Reads.newAt _ _ 4 1 _ _ rfl (by omega) (fun _=>True) trivial (by simp)) | exact Reads.drew (Reads.alloc (Reads.newAt _ _ 4 1 _ _ rfl (by omega) (fun _=>True) trivial rfl) _))).mono ?_;rintro e w6 ⟨l6,A6,c6,iQ,rfl,kP,hb6⟩;have iR:W.heap.size≤w6.heap.size:=Nat.le_trans hHeld.size hb6.size;have dD:=(kP.read (by rw [iQ.2];omega)).more (S':=fun _=>True) (fun _ _ _=>trivial)) | (go_at_call 18;refine (jX (S:=fun _=>True) M.vP [⟨3,2⟩] M.bV.2.2 M.dn.2.2.2.2.1 M.lX M.tK iQ (by first | exact dD | exact dD.below ((Below.refl _ _).alloc (Nat.le_refl _) _))).mono ?_;rintro e w8 ⟨A8,c8,A9,c9,rfl,_,hq8,hb8⟩;have iY:W.heap.size≤w8.heap.size:=Nat.le_trans hHeld.size hb8.size)
     refine hK.out _ _ ?Mc (fun hHeld=>?_)
     case Mc=>(exact hHeld.trans (hb6.mono hHeld.size))
     clear hK K
     try simp only [Act.put,la,lz,ls]
     refine tr 3 fun K hK=>?_
     go_simp
     first | (go_at_call 62;refine (dI M.xP M.yS 4 M.tJ rfl (by omega) (by decide) (by first | exact Reads.dV _ _ 4 1 _ rfl (by omega) (fun _=>True) trivial | exact Reads.alloc (Reads.dV _ _ 4 1 _ rfl (by omega) (fun _=>True) trivial) _ | exact Reads.drew (Reads.newAt _ _ 4 1 _ _ rfl (by omega) (fun _=>True) trivial (by simp)) | exact Reads.drew (Reads.alloc (Reads.newAt _ _ 4 1 _ _ rfl (by omega) (fun _=>True) trivial rfl) _))).mono ?_;rintro e w6 ⟨l6,A6,c6,iQ,rfl,kP,hb6⟩;have iR:W.heap.size≤w6.heap.size:=Nat.le_trans hHeld.size hb6.size;have dD:=(kP.read (by rw [iQ.2];omega)).more (S':=fun _=>True) (fun _ _ _=>trivial)) | (go_at_call 18;refine (jX (S:=fun _=>True) M.vP [⟨3,2⟩] M.bV.2.2 M.dn.2.2.2.2.1 M.lX M.tK iQ (by first | exact dD | exact dD.below ((Below.refl _ _).alloc (Nat.le_refl _) _))).mono ?_;rintro e w8 ⟨A8,c8,A9,c9,rfl,_,hq8,hb8⟩;have iY:W.heap.size≤w8.heap.size:=Nat.le_trans hHeld.size hb8.size)
     refine hK.out _ _ ?MB (fun hHeld=>?_)
     case MB=>(exact hHeld.trans (hb8.mono hHeld.size))
     clear hK K
     try simp only [Act.put,la,lz,ls]
     refine tk 4 ?_
     refine tk 5 ?_
     refine tk 6 ?_
     refine tk 7 ?_
     refine tr 9 fun K hK=>?_
     refine bF (cs:=aj) (by first | exact Held.new _ aj 33 | exact (Held.new w6 aj 33).below hb8 | exact ((Held.newAt _ aj 33 (by simp)).drew.below hb6).below hb8 | exact (((Held.newAt _ aj 33 rfl).alloc _).drew.below hb6).below hb8) (aW M.vP A8 c8) rfl bW (dL _ _ _) (.tmp 23) (.tmp 175) rfl rfl rfl ?_
     refine hK.out _ _ ?ML (fun hHeld=>?_)
     case ML=>(exact below_setCells _ (by first | exact Nat.le_refl _ | exact iR | exact iY | exact Nat.le_succ _) _ _ _ _ hHeld)
     clear hK K
     try simp only [Act.put,la,lz,ls]
     refine tk 10 ?_
     refine tk 11 ?_
     refine wpAnyH_done (by kernel_rfl) ?_ _
     refine HK.out _ _ ?_
     apply HN.out
     refine ⟨rfl,rfl,rfl,hR.below hHeld,h17.below hHeld,rfl,h20.below hHeld,rfl,?_,?_,rfl⟩
     · refine ⟨_,A8,c8,rfl,?_,?_⟩
       · refine Nat.le_trans hR.sz ?_
         first | exact iR | exact iY | exact Nat.le_refl _ | exact Nat.le_succ _
       · refine Held.whole (cs:=aj) ?_ _ rfl
         first | exact Held.new _ aj 33 | exact (Held.new w6 aj 33).below hb8 | exact ((Held.newAt _ aj 33 (by simp)).drew.below hb6).below hb8 | exact (((Held.newAt _ aj 33 rfl).alloc _).drew.below hb6).below hb8
     · exact ⟨A9,c9,rfl,Reads.more (Reads.over hq8 (by first | exact Below.refl _ _ | exact (Below.refl _ _).alloc (Nat.le_refl _) _) (fun b hl h e=>by have hs6:=hb6.size;(try simp at hs6);(try simp at h);omega)) (fun b _ h=>by have:=hR.sz;(try simp at h);show w.heap.size+3≤b;omega)⟩
 · go_simp
   refine hK.out _ _ ?Ji (fun hHeld=>?_)
   case Ji=>(exact Below.alloc hHeld hHeld.size _)
   clear hK K
   try simp only [Act.put,la,lz,ls]
   refine tr 1 fun K hK=>?_
   go_simp
   refine hK.out _ _ ?Jf (fun hHeld=>?_)
   case Jf=>(exact Below.alloc hHeld hHeld.size _)
   clear hK K
   try simp only [Act.put,la,lz,ls]
   refine tr 2 fun K hK=>?_
   go_simp
   first | (go_at_call 62;refine (dI M.xP M.yS 4 M.tJ rfl (by omega) (by decide) (by first | exact Reads.dV _ _ 4 1 _ rfl (by omega) (fun _=>True) trivial | exact Reads.alloc (Reads.dV _ _ 4 1 _ rfl (by omega) (fun _=>True) trivial) _ | exact Reads.drew (Reads.newAt _ _ 4 1 _ _ rfl (by omega) (fun _=>True) trivial (by simp)) | exact Reads.drew (Reads.alloc (Reads.newAt _ _ 4 1 _ _ rfl (by omega) (fun _=>True) trivial rfl) _))).mono ?_;rintro e w6 ⟨l6,A6,c6,iQ,rfl,kP,hb6⟩;have iR:W.heap.size≤w6.heap.size:=Nat.le_trans hHeld.size hb6.size;have dD:=(kP.read (by rw [iQ.2];omega)).more (S':=fun _=>True) (fun _ _ _=>trivial)) | (go_at_call 18;refine (jX (S:=fun _=>True) M.vP [⟨3,2⟩] M.bV.2.2 M.dn.2.2.2.2.1 M.lX M.tK iQ (by first | exact dD | exact dD.below ((Below.refl _ _).alloc (Nat.le_refl _) _))).mono ?_;rintro e w8 ⟨A8,c8,A9,c9,rfl,_,hq8,hb8⟩;have iY:W.heap.size≤w8.heap.size:=Nat.le_trans hHeld.size hb8.size)
   refine hK.out _ _ ?Jg (fun hHeld=>?_)
   case Jg=>(exact hHeld.trans (hb6.mono hHeld.size))
   clear hK K
   try simp only [Act.put,la,lz,ls]
   refine tr 3 fun K hK=>?_
   go_simp
   first | (go_at_call 62;refine (dI M.xP M.yS 4 M.tJ rfl (by omega) (by decide) (by first | exact Reads.dV _ _ 4 1 _ rfl (by omega) (fun _=>True) trivial | exact Reads.alloc (Reads.dV _ _ 4 1 _ rfl (by omega) (fun _=>True) trivial) _ | exact Reads.drew (Reads.newAt _ _ 4 1 _ _ rfl (by omega) (fun _=>True) trivial (by simp)) | exact Reads.drew (Reads.alloc (Reads.newAt _ _ 4 1 _ _ rfl (by omega) (fun _=>True) trivial rfl) _))).mono ?_;rintro e w6 ⟨l6,A6,c6,iQ,rfl,kP,hb6⟩;have iR:W.heap.size≤w6.heap.size:=Nat.le_trans hHeld.size hb6.size;have dD:=(kP.read (by rw [iQ.2];omega)).more (S':=fun _=>True) (fun _ _ _=>trivial)) | (go_at_call 18;refine (jX (S:=fun _=>True) M.vP [⟨3,2⟩] M.bV.2.2 M.dn.2.2.2.2.1 M.lX M.tK iQ (by first | exact dD | exact dD.below ((Below.refl _ _).alloc (Nat.le_refl _) _))).mono ?_;rintro e w8 ⟨A8,c8,A9,c9,rfl,_,hq8,hb8⟩;have iY:W.heap.size≤w8.heap.size:=Nat.le_trans hHeld.size hb8.size)
   refine hK.out _ _ ?Jh (fun hHeld=>?_)
   case Jh=>(exact hHeld.trans (hb8.mono hHeld.size))
   clear hK K
   try simp only [Act.put,la,lz,ls]
   refine tk 4 ?_
   refine tk 5 ?_
   refine tk 6 ?_
   refine tk 7 ?_
   refine tr 9 fun K hK=>?_
   refine bF (cs:=aj) (by first | exact Held.new _ aj 33 | exact (Held.new w6 aj 33).below hb8 | exact ((Held.newAt _ aj 33 (by simp)).drew.below hb6).below hb8 | exact (((Held.newAt _ aj 33 rfl).alloc _).drew.below hb6).below hb8) (aW M.vP A8 c8) rfl bW (dL _ _ _) (.tmp 23) (.tmp 175) rfl rfl rfl ?_
   refine hK.out _ _ ?Jj (fun hHeld=>?_)
   case Jj=>(exact below_setCells _ (by first | exact Nat.le_refl _ | exact iR | exact iY | exact Nat.le_succ _) _ _ _ _ hHeld)
   clear hK K
   try simp only [Act.put,la,lz,ls]
   refine tk 10 ?_
   refine tk 11 ?_
   refine wpAnyH_done (by kernel_rfl) ?_ _
   refine HK.out _ _ ?_
   apply HN.out
   refine ⟨rfl,rfl,rfl,hR.below hHeld,h17.below hHeld,rfl,h20.below hHeld,rfl,?_,?_,rfl⟩
   · refine ⟨_,A8,c8,rfl,?_,?_⟩
     · refine Nat.le_trans hR.sz ?_
       first | exact iR | exact iY | exact Nat.le_refl _ | exact Nat.le_succ _
     · refine Held.whole (cs:=aj) ?_ _ rfl
       first | exact Held.new _ aj 33 | exact (Held.new w6 aj 33).below hb8 | exact ((Held.newAt _ aj 33 (by simp)).drew.below hb6).below hb8 | exact (((Held.newAt _ aj 33 rfl).alloc _).drew.below hb6).below hb8
   · exact ⟨A9,c9,rfl,Reads.more (Reads.over hq8 (by first | exact Below.refl _ _ | exact (Below.refl _ _).alloc (Nat.le_refl _) _) (fun b hl h e=>by have hs6:=hb6.size;(try simp at hs6);(try simp at h);omega)) (fun b _ h=>by have:=hR.sz;(try simp at h);show w.heap.size+3≤b;omega)⟩
theorem QJ (w:World) (hg:Glob w):
 Calls Tryz.prog 17 #[] w fun e w'=>e= .returned (.bool true)∧Below w.heap.size w w':=by
 have HG:=hide hg
 have H2:=UK w HG (hide (UL w HG (hide (UM w HG (hide (UN w HG (hide (UO w HG (hide (UQ w HG (hide (UR w HG (hide (Ri w HG (hide (Rj w HG (hide (Rk w HG (hide (Rl w HG (hide (Rn w HG (hide (Ro w HG))))))))))))))))))))))))
 have HN:=hide H2
 clear H2 hg
 go_enter Tryz.func17,Tryz.ntmps17
 go_upto_region 1 with (fail)
 rename_i K hK
 have HK:=hide hK
 clear hK
 have hB:=(((bU.nil w).new (by simp) [.string ⟨#[]⟩,.int .i64 0,.int .i64 0] 23).new (by simp) [.string ⟨#[]⟩,.int .i64 0,.int .i64 0] 23).new (by simp) [.string ⟨#[]⟩,.int .i64 0,.int .i64 0] 23
 have hB0:=hB.put 0 rfl [.string ⟨#[101,105,103,104,116]⟩,.int .i64 0,.int .i64 0] rfl
 have hB1:=hB0.put 1 rfl [.string ⟨#[110,105,110,101]⟩,.int .i64 0,.int .i64 3] rfl
 have hB2:=hB1.put 2 rfl [.string ⟨#[115,116,114,97,105,103,104,116]⟩,.int .i64 2,.int .i64 2] rfl
 go_wp2_with (first | (refine aO 23 (.tmp 1) (.tmp 31) rfl ?_;refine aF (hB.bf rfl) ([.string ⟨#[101,105,103,104,116]⟩,.int .i64 0,.int .i64 0]) rfl kV (xI _ _ _) rfl (.tmp 1) (.tmp 31) rfl rfl rfl ?_) | (refine aO 23 (.tmp 2) (.tmp 32) rfl ?_;refine aF (hB0.get 1 rfl) ([.string ⟨#[110,105,110,101]⟩,.int .i64 0,.int .i64 3]) rfl kV (xI _ _ _) rfl (.tmp 2) (.tmp 32) rfl rfl rfl ?_) | (refine aO 23 (.tmp 3) (.tmp 33) rfl ?_;refine aF (hB1.get 2 rfl) ([.string ⟨#[115,116,114,97,105,103,104,116]⟩,.int .i64 2,.int .i64 2]) rfl kV (xI _ _ _) rfl (.tmp 3) (.tmp 33) rfl rfl rfl ?_))
 have hsz:=hB2.size (by simp)
 refine HK.out _ _ ?_
 apply HN.out
 exact ⟨rfl,rfl,rfl,hB2.bf rfl,hB2.get 1 rfl,hB2.get 2 rfl,hB2.bw,hsz⟩
def Ut (W0:World) (x:Sh) (v2 v5:Value) (W:World):Prop:=
 v2=ptr W0.heap.size∧Held W W0.heap.size (au x) 66∧jl W (fun _=>True) x.a x.c x.x.aA∧Below W0.heap.size W0 W∧x.x.aA.length*16≤140737488355328∧∃ B A c,v5=ptr B∧Held W B (au ⟨x.x,A,c⟩) 69∧jl W (fun _=>True) A c x.x.aA
theorem Ut.below {W0 W W':World} {x:Sh} {v2 v5:Value} (h:Ut W0 x v2 v5 W) (hb:Below W.heap.size W W'):Ut W0 x v2 v5 W':=by
 obtain ⟨h1,h2,h3,h4,h5,B,A,c,h6,h7,h8⟩:=h
 exact ⟨h1,h2.below hb,Reads.below h3 hb,h4.trans (hb.mono h4.size),h5,B,A,c,h6,h7.below hb,Reads.below h8 hb⟩
def Q7 (x:M.aI) (v:Value) (W:World):Prop:=∃ B A c,v=ptr B∧Held W B (au ⟨x,A,c⟩) 66∧jl W (fun _=>True) A c x.aA
theorem Q7.below {x:M.aI} {v:Value} {W W':World} (h:Q7 x v W) (hb:Below W.heap.size W W'):Q7 x v W':=by
 obtain ⟨B,A,c,h1,h2,h3⟩:=h
 exact ⟨B,A,c,h1,h2.below hb,Reads.below h3 hb⟩
theorem Q7.new {x:M.aI} {A:Option Addr} {c:Nat} {S:Nat→Prop} {w1:World} (hr:jl w1 S A c x.aA) (hbx:Held (w1.alloc (.cells JB.toArray 66)) w1.heap.size JB 66):
 Q7 x (ptr w1.heap.size) ((w1.alloc (.cells JB.toArray 66)).setCells w1.heap.size 0 (au ⟨x,A,c⟩))∧Below w1.heap.size w1 ((w1.alloc (.cells JB.toArray 66)).setCells w1.heap.size 0 (au ⟨x,A,c⟩)):=by
 have hb:Below w1.heap.size w1 ((w1.alloc (.cells JB.toArray 66)).setCells w1.heap.size 0 (au ⟨x,A,c⟩)):=below_setCells _ (Nat.le_refl _) _ _ _ _ ((Below.refl _ _).alloc (Nat.le_refl _) _)
 exact ⟨⟨w1.heap.size,A,c,rfl,hbx.whole _ rfl,Reads.more (Reads.below hr hb) (fun _ _ _=>trivial)⟩,hb⟩
theorem Rt (l:List UInt8) (y:M.aI) (n e:Int) (hy:M.parse l=(y,n,e)) (W:World) (hg:Glob W) (hl:l.length≤17592186044416):
 Calls Tryz.prog 29 #[.string ⟨l.toArray⟩] W fun r w'=>∃ A c,r= .returned (.tuple #[iO y A c,.int .i64 n,.int .i64 e])∧jl w' (fun b=>W.heap.size≤b) A c y.aA∧Below W.heap.size W w':=by
 have:=zS l W hg hl
 rw [hy] at this
 exact this
theorem Ru (x:M.aI) (hx:M.cZ x=0) (S:Nat→Prop) (A:Option Addr) (c:Nat) (W:World) (hp:jl W S A c x.aA):
 Calls Tryz.prog 28 #[iO x A c] W fun e w'=>e= .returned (.tuple #[.string ⟨(M.print x).toArray⟩,.int .i64 0])∧Below W.heap.size W w':=by
 have:=zT S x A c W hp
 rw [hx,if_pos rfl] at this
 exact this
theorem PN (W:World) (s:ByteArray) (k:Nat):Below W.heap.size W (W.iter s k):=(Below.refl _ _).alloc (Nat.le_refl _) _
theorem VY {W0 W W':World} (h:Below W0.heap.size W0 W) (hb:Below W.heap.size W W'):Below W0.heap.size W0 W':=h.trans (hb.mono h.size)
end Go.Proofs.YtelpepbpdojikaaGreatDoor
