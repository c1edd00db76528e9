/- Parts of a proof. -/
import Derived.IntWalk
import Derived.Test.YtcjglfbpjkdgiaaGreatDoorKc11
set_option maxHeartbeats 3000000
set_option maxRecDepth 100000
set_option linter.unusedVariables false
set_option linter.unusedSimpArgs false
namespace Go.Proofs.YtcjglfbpjkdgiaaGreatDoor
open Go.RowKit
theorem P9 (S:Nat→Prop) (n:Int) (r:M.Rules) (s:M.State) (x:M.aV) (A P:Option Addr) (c d:Nat) (w:World) (hp:bT w S A c s.aA) (hpp:fA w S P d x.aF) (hck:M.cZ x=0) (hr:M.bP r=0) (hk:M.Ok r n s) (hn:0≤n∧n≤500000) (hl:M.Lawful r s x) (hc:x.kind≠M.bf):
 Calls Tryz.prog 104 #[dP r s A c,iG x P d] w fun e w'=>∃ A' c',e= .returned (dP r (M.play r s x) A' c')∧bT w' (fun b=>w.heap.size≤b) A' c' (M.play r s x).aA∧Below w.heap.size w w':=by
 rcases (M.rJ hck).aN with h | h
 · exact WX S n r s x A P c d w hp hpp hck hr hk hn h hl hc
 · exact WY S n r s x A P c d w hp hpp hck hr hk hn h hl hc
theorem next_any (S:Nat→Prop) (n:Int) (r:M.Rules) (s:M.State) (x:M.aV) (A P:Option Addr) (c d:Nat) (w:World) (hp:bT w S A c s.aA) (hpp:fA w S P d x.aF) (hck:M.cZ x=0) (hr:M.bP r=0) (hk:M.Ok r n s) (hn:0≤n∧n≤500000) (hl:M.Lawful r s x):
 Calls Tryz.prog 49 #[dP r s A c,iG x P d] w fun e w'=>∃ A' c',e= .returned (dP r (M.next r s x) A' c')∧bT w' (fun b=>w.heap.size≤b) A' c' (M.next r s x).aA∧Below w.heap.size w w':=by
 have hsx:=M.rJ hck
 have hpr:0≤x.aN∧x.aN≤1:=by have:=hsx.aN;omega
 have htn:0≤s.turn∧s.turn≤1:=by have:=hk.turn;omega
 have e1:=bW x.kind [99,111,110,99,101,100,101];have e2:=bW x.kind [112,97,115,115];have E1:=hide e1;have E2:=hide e2;clear e1 e2
 go_enter Tryz.func49,Tryz.ntmps49
 go_upto_region 1 with (fail)
 go_cut [2,3,4,6] (fun v2 v3 v4 v6 wx=>v2=ptr w.heap.size∧v3=ptr (w.heap.size+1)∧v4=ptr (w.heap.size+2)∧v6= .string x.kind∧aS w wx [(aj r (s) A c,99),(aB ⟨x,P,d⟩,27),(aW,99)])
 case first=>
  go_wp2;go_meet;exact ⟨rfl,rfl,rfl,rfl,((((aS.nil w).new (by simp) (aj r (s) A c) _).new (by simp) (aB ⟨x,P,d⟩) _).new (by simp) (aW) _)⟩
 case rest=>
  obtain ⟨rfl,rfl,rfl,rfl,hB⟩:=hcut;have uO:=hB.size (by simp)
  simp only [List.length_cons,List.length_nil] at uO
  rcases y1:(x.kind.toList == [99,111,110,99,101,100,101]) with _ | _
  · have hc:x.kind≠M.bf:=by have:=E1.out;rw [y1] at this;simpa using this.symm
    rcases y2:(x.kind.toList == [112,97,115,115]) with _ | _
    · have hps:x.kind≠M.gU:=by have:=E2.out;rw [y2] at this;simpa using this.symm
      have hnx:M.next r s x=M.play r s x:=by unfold M.next;rw [if_neg hc,if_neg hps]
      have HN:=hide hnx;have HC:=hide hc;clear hnx hps hc
      go_wp2_with (first | (refine aC 99 (.tmp 2) rfl ?_;refine au (hB.ah rfl) Tryz.underlying99 rfl ak rfl (.tmp 2) rfl rfl ?_) | (refine aC 27 (.tmp 3) rfl ?_;refine au (hB.get 1 rfl) Tryz.underlying27 rfl bY rfl (.tmp 3) rfl rfl ?_) | (go_at_call 104;refine (P9 S n r s x A P c d _ (hp.below hB.bw) (hpp.below hB.bw) hck hr hk hn hl HC.out).mono ?_;rintro e w5 ⟨A4,c4,rfl,hr4,hb5⟩;have pK:=hB.call (by simp) hb5) | (refine aQ 99 (.tmp 4) (.tmp 31) rfl ?_;refine aI (pK.get 2 rfl) (aj r (M.play r s x) A4 c4) rfl ak (bH _ _ _ _) rfl (.tmp 4) (.tmp 31) rfl rfl rfl ?_))
      have hZ:=pK.put 2 rfl (aj r (M.play r s x) A4 c4) rfl;refine bodyPost_ret (aY (p:=4) (hZ.get 2 rfl) Tryz.underlying99 rfl ak rfl _ rfl) rfl ⟨A4,c4,?_,?_,hZ.bw⟩
      · rw [HN.out];rfl
      · rw [HN.out]
        have hg3:¬ (fun b=>wc.heap.size≤b) (w.heap.size+2):=fun h=>by
         have h:wc.heap.size≤w.heap.size+2:=h
         omega
        exact (bT.sets hg3 _ 0 _ hr4).more (fun b _ h=>by omega)
    · have hps:x.kind=M.gU:=by have:=E2.out;rw [y2] at this;simpa using this.symm
      have hnx:M.next r s x= {M.calm r s x with turn:=1 - s.turn,run:=0 }:=by unfold M.next;rw [if_neg hc,if_pos hps,hl.turn hc]
      have HN:=hide hnx;clear hnx hps hc
      go_wp2_with (first | (refine aC 99 (.tmp 2) rfl ?_;refine au (hB.ah rfl) Tryz.underlying99 rfl ak rfl (.tmp 2) rfl rfl ?_) | (refine aC 27 (.tmp 3) rfl ?_;refine au (hB.get 1 rfl) Tryz.underlying27 rfl bY rfl (.tmp 3) rfl rfl ?_) | (go_at_call 102;refine (yO S r s x A P c d _ (hp.below hB.bw)).mono ?_;rintro e w4 ⟨A4,c4,rfl,hr4,hb4⟩;have hQ4:=hB.call (by simp) hb4) | (go_at_call 103;refine (ig r (M.calm r s x) A4 c4 _ htn.1 htn.2).mono ?_;rintro e w5 ⟨rfl,hb5⟩;have pK:=hQ4.call (by simp) hb5) | (refine aQ 99 (.tmp 4) (.tmp 28) rfl ?_;refine aI (pK.get 2 rfl) (aj r ({M.calm r s x with turn:=1 - s.turn,run:=0 }) A4 c4) rfl ak (bH _ _ _ _) rfl (.tmp 4) (.tmp 28) rfl rfl rfl ?_))
      have hZ:=pK.put 2 rfl (aj r ({M.calm r s x with turn:=1 - s.turn,run:=0 }) A4 c4) rfl;refine bodyPost_ret (aY (p:=4) (hZ.get 2 rfl) Tryz.underlying99 rfl ak rfl _ rfl) rfl ⟨A4,c4,?_,?_,hZ.bw⟩
      · rw [HN.out];rfl
      · rw [HN.out]
        have hg3:¬ (fun b=>wc.heap.size≤b) (w.heap.size+2):=fun h=>by
         have h:wc.heap.size≤w.heap.size+2:=h
         omega
        exact (bT.sets hg3 _ 0 _ (hr4.below hb5)).more (fun b _ h=>by omega)
  · have hc:x.kind=M.bf:=by have:=E1.out;rw [y1] at this;simpa using this.symm
    have hnx:M.next r s x= {s with over:=true,bQ:=1 - x.aN }:=by unfold M.next;rw [if_pos hc]
    have HN:=hide hnx;clear hnx hc;have k9:=(hB.ah rfl).cell (j:=9) rfl
    go_upto_region 3 with (fail)
    go_cut [] (fun wx=>∃ A1 c1,aS w wx [(aj r (s) A1 c1,99),(aB ⟨x,P,d⟩,27),(aW,99)]∧bT wx (fun b=>w.heap.size+3≤b) A1 c1 s.aA)
    case first=>
     go_wp2_with (go_at_call 101;refine (jd S A c s.aA _ (hp.below hB.bw)).mono ?_;rintro e w1 ⟨A1,c1,rfl,hr1,hb1⟩;have hD:=hB.call (by simp) hb1;have Yh:=hD.ah rfl;have q9:=Yh.cell (j:=9) rfl;have qf9:=Yh.frozen 9)
     go_meet;exact ⟨A1,c1,hD.set 0 rfl 9 _,(hr1.more (fun b _ h=>by omega)).setCell (fun h=>by have h:w.heap.size+3≤w.heap.size:=h;omega) _⟩
    case rest=>
     clear hB k9 uO;obtain ⟨A1,c1,hB,hr1⟩:=hcut;have Et:=hB.ah rfl;have x9:=hB.get 1 rfl;have k16:=Et.cell (j:=16) rfl;have Y7:=Et.frozen 16;have k17:=Et.cell (j:=17) rfl;have adM:=Et.frozen 17;have x0:=x9.cell (j:=0) rfl;have xf0:=x9.frozen 0;have hwr:IntKind.i64.wrap (1 - x.aN)=1 - x.aN:=IntWalk.i64_in _ (by omega)
     go_upto_region 4 with (fail)
     go_cut [] (fun wx=>aS w wx [(aj r ({s with over:=true,bQ:=1 - x.aN }) A1 c1,99),(aB ⟨x,P,d⟩,27),(aW,99)]∧bT wx (fun b=>w.heap.size+3≤b) A1 c1 s.aA)
     case first=>
      refine wp_region_held_drew (S:=(fun w':World=>w'.cell? ⟨w.heap.size+1,0,none⟩=some (.int .i64 x.aN))) (by kernel_rfl) ?kG (fun hHeld=>?_)
      case kG=>first | exact (hB.get 1 rfl).cell (j:=0) rfl | exact (hB.drew.get 1 rfl).cell (j:=0) rfl | exact ((hB.set 0 rfl 16 _).drew.get 1 rfl).cell (j:=0) rfl | exact (((hB.set 0 rfl 16 _).set 0 rfl 17 _).drew.get 1 rfl).cell (j:=0) rfl
      refine tk 0 ?_;refine tk 1 ?_;refine tk 2 ?_;refine tk 3 ?_;refine tk 4 ?_;refine tr 5 fun K hK=>?_;go_simp;refine hK.out _ _ ?QS (fun hHeld=>?_)
      case QS=>(first | (first | exact (hB.get 1 rfl).cell (j:=0) rfl | exact (hB.drew.get 1 rfl).cell (j:=0) rfl | exact ((hB.set 0 rfl 16 _).drew.get 1 rfl).cell (j:=0) rfl | exact (((hB.set 0 rfl 16 _).set 0 rfl 17 _).drew.get 1 rfl).cell (j:=0) rfl) | (dsimp only;first | exact (hB.get 1 rfl).cell (j:=0) rfl | exact (hB.drew.get 1 rfl).cell (j:=0) rfl | exact ((hB.set 0 rfl 16 _).drew.get 1 rfl).cell (j:=0) rfl | exact (((hB.set 0 rfl 16 _).set 0 rfl 17 _).drew.get 1 rfl).cell (j:=0) rfl))
      clear hK K
      try simp only [Act.put,la,lz,ls]
      refine tk 6 ?_;refine tk 7 ?_;refine tr 8 fun K hK=>?_;go_simp;refine hK.out _ _ ?QT (fun hHeld=>?_)
      case QT=>(first | (first | exact (hB.get 1 rfl).cell (j:=0) rfl | exact (hB.drew.get 1 rfl).cell (j:=0) rfl | exact ((hB.set 0 rfl 16 _).drew.get 1 rfl).cell (j:=0) rfl | exact (((hB.set 0 rfl 16 _).set 0 rfl 17 _).drew.get 1 rfl).cell (j:=0) rfl) | (dsimp only;first | exact (hB.get 1 rfl).cell (j:=0) rfl | exact (hB.drew.get 1 rfl).cell (j:=0) rfl | exact ((hB.set 0 rfl 16 _).drew.get 1 rfl).cell (j:=0) rfl | exact (((hB.set 0 rfl 16 _).set 0 rfl 17 _).drew.get 1 rfl).cell (j:=0) rfl))
      clear hK K
      try simp only [Act.put,la,lz,ls]
      refine wpAnyH_done (by kernel_rfl) ?_ _;go_wp2;go_meet;exact ⟨((hB.set 0 rfl 16 _).set 0 rfl 17 _).drew,(hr1.setCell (fun h=>by have h:w.heap.size+3≤w.heap.size:=h;omega) _).setCell (fun h=>by have h:w.heap.size+3≤w.heap.size:=h;omega) _⟩
     case rest=>
      clear hB hr1 Et x9 k16 k17 x0 Y7 adM xf0;obtain ⟨hB,hr1⟩:=hcut
      go_wp2_with (first | (refine aC 99 (.tmp 2) rfl ?_;refine au (hB.ah rfl) Tryz.underlying99 rfl ak rfl (.tmp 2) rfl rfl ?_) | (refine aQ 99 (.tmp 4) (.tmp 22) rfl ?_;refine aI (hB.get 2 rfl) (aj r ({s with over:=true,bQ:=1 - x.aN }) A1 c1) rfl ak (bH _ _ _ _) rfl (.tmp 4) (.tmp 22) rfl rfl rfl ?_))
      have hZ:=hB.put 2 rfl (aj r ({s with over:=true,bQ:=1 - x.aN }) A1 c1) rfl;refine bodyPost_ret (aY (p:=4) (hZ.get 2 rfl) Tryz.underlying99 rfl ak rfl _ rfl) rfl ⟨A1,c1,?_,?_,hZ.bw⟩
      · rw [HN.out];rfl
      · rw [HN.out]
        have hg3:¬ (fun b=>w.heap.size+3≤b) (w.heap.size+2):=fun h=>by
         have h:w.heap.size+3≤w.heap.size+2:=h
         omega
        exact (bT.sets hg3 _ 0 _ hr1).more (fun b _ h=>by omega)
end Go.Proofs.YtcjglfbpjkdgiaaGreatDoor
