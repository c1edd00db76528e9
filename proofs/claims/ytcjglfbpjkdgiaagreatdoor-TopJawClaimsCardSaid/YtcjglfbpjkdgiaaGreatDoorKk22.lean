/- Parts of a proof. -/
import Derived.IntWalk
import Derived.Test.YtcjglfbpjkdgiaaGreatDoorKk20
import Derived.Test.YtcjglfbpjkdgiaaGreatDoorKk21
set_option maxHeartbeats 3000000
set_option maxRecDepth 100000
set_option linter.unusedVariables false
set_option linter.unusedSimpArgs false
namespace Go.Proofs.YtcjglfbpjkdgiaaGreatDoor
open Go.RowKit
theorem UG (S:Nat→Prop) (n:Int) (r:M.Rules) (s:M.State) (x:M.aV) (A P:Option Addr) (c d:Nat) (w:World) (hp:bQ w S A c s.au) (hpp:fP w S P d x.aC) (hck:M.bT x=0) (hr:M.aQ r=0) (hk:M.Ok r n s) (hn:0≤n∧n≤500000) (hl:M.Lawful r s x) (hc:x.kind≠M.bC):
 Calls Tryz.prog 104 #[dX r s A c,iy x P d] w fun e w'=>∃ A' c',e= .returned (dX r (M.play r s x) A' c')∧bQ w' (fun b=>w.heap.size≤b) A' c' (M.play r s x).au∧Below w.heap.size w w':=by
 rcases (M.lV hck).aG with h | h
 · exact acg S n r s x A P c d w hp hpp hck hr hk hn h hl hc
 · exact acr S n r s x A P c d w hp hpp hck hr hk hn h hl hc
theorem next_any (S:Nat→Prop) (n:Int) (r:M.Rules) (s:M.State) (x:M.aV) (A P:Option Addr) (c d:Nat) (w:World) (hp:bQ w S A c s.au) (hpp:fP w S P d x.aC) (hck:M.bT x=0) (hr:M.aQ r=0) (hk:M.Ok r n s) (hn:0≤n∧n≤500000) (hl:M.Lawful r s x):
 Calls Tryz.prog 49 #[dX r s A c,iy x P d] w fun e w'=>∃ A' c',e= .returned (dX r (M.next r s x) A' c')∧bQ w' (fun b=>w.heap.size≤b) A' c' (M.next r s x).au∧Below w.heap.size w w':=by
 have hsx:=M.lV hck
 have hpr:0≤x.aG∧x.aG≤1:=by have:=hsx.aG;omega
 have htn:0≤s.turn∧s.turn≤1:=by have:=hk.turn;omega
 have e1:=dn x.kind [99,111,110,99,101,100,101];have e2:=dn x.kind [112,97,115,115];have E1:=hide e1;have E2:=hide e2;clear e1 e2
 go_enter Tryz.func49,Tryz.ntmps49
 go_upto_region 1 with (fail)
 go_cut [2,3,4,6] (fun v2 v3 v4 v6 wx=>v2=ptr w.heap.size∧v3=ptr (w.heap.size+1)∧v4=ptr (w.heap.size+2)∧v6= .string x.kind∧aX w wx [(aj r (s) A c,99),(aA ⟨x,P,d⟩,27),(aY,99)])
 case first=>
  go_wp2;go_meet;exact ⟨rfl,rfl,rfl,rfl,((((aX.nil w).new (by simp) (aj r (s) A c) _).new (by simp) (aA ⟨x,P,d⟩) _).new (by simp) (aY) _)⟩
 case rest=>
  obtain ⟨rfl,rfl,rfl,rfl,hB⟩:=hcut;have qB:=hB.size (by simp)
  simp only [List.length_cons,List.length_nil] at qB
  rcases y1:(x.kind.toList == [99,111,110,99,101,100,101]) with _ | _
  · have hc:x.kind≠M.bC:=by have:=E1.out;rw [y1] at this;simpa using this.symm
    rcases y2:(x.kind.toList == [112,97,115,115]) with _ | _
    · have hps:x.kind≠M.iW:=by have:=E2.out;rw [y2] at this;simpa using this.symm
      have hnx:M.next r s x=M.play r s x:=by unfold M.next;rw [if_neg hc,if_neg hps]
      have HN:=hide hnx;have HC:=hide hc;clear hnx hps hc
      go_wp2_with (first | (refine aB 99 (.tmp 2) rfl ?_;refine ak (hB.ah rfl) Tryz.underlying99 rfl ay rfl (.tmp 2) rfl rfl ?_) | (refine aB 27 (.tmp 3) rfl ?_;refine ak (hB.get 1 rfl) Tryz.underlying27 rfl bG rfl (.tmp 3) rfl rfl ?_) | (go_at_call 104;refine (UG S n r s x A P c d _ (hp.below hB.bw) (hpp.below hB.bw) hck hr hk hn hl HC.out).mono ?_;rintro e w5 ⟨A4,c4,rfl,hr4,hb5⟩;have su:=hB.call (by simp) hb5) | (refine aO 99 (.tmp 4) (.tmp 31) rfl ?_;refine aF (su.get 2 rfl) (aj r (M.play r s x) A4 c4) rfl ay (bM _ _ _ _) rfl (.tmp 4) (.tmp 31) rfl rfl rfl ?_))
      have hZ:=su.put 2 rfl (aj r (M.play r s x) A4 c4) rfl;refine bodyPost_ret (bf (p:=4) (hZ.get 2 rfl) Tryz.underlying99 rfl ay rfl _ rfl) rfl ⟨A4,c4,?_,?_,hZ.bw⟩
      · rw [HN.out];rfl
      · rw [HN.out]
        have hg3:¬ (fun b=>wc.heap.size≤b) (w.heap.size+2):=fun h=>by
         have h:wc.heap.size≤w.heap.size+2:=h
         omega
        exact (bQ.sets hg3 _ 0 _ hr4).more (fun b _ h=>by omega)
    · have hps:x.kind=M.iW:=by have:=E2.out;rw [y2] at this;simpa using this.symm
      have hnx:M.next r s x= {M.calm r s x with turn:=1 - s.turn,run:=0 }:=by unfold M.next;rw [if_neg hc,if_pos hps,hl.turn hc]
      have HN:=hide hnx;clear hnx hps hc
      go_wp2_with (first | (refine aB 99 (.tmp 2) rfl ?_;refine ak (hB.ah rfl) Tryz.underlying99 rfl ay rfl (.tmp 2) rfl rfl ?_) | (refine aB 27 (.tmp 3) rfl ?_;refine ak (hB.get 1 rfl) Tryz.underlying27 rfl bG rfl (.tmp 3) rfl rfl ?_) | (go_at_call 102;refine (BF S r s x A P c d _ (hp.below hB.bw)).mono ?_;rintro e w4 ⟨A4,c4,rfl,hr4,hb4⟩;have hQ4:=hB.call (by simp) hb4) | (go_at_call 103;refine (iU r (M.calm r s x) A4 c4 _ htn.1 htn.2).mono ?_;rintro e w5 ⟨rfl,hb5⟩;have su:=hQ4.call (by simp) hb5) | (refine aO 99 (.tmp 4) (.tmp 28) rfl ?_;refine aF (su.get 2 rfl) (aj r ({M.calm r s x with turn:=1 - s.turn,run:=0 }) A4 c4) rfl ay (bM _ _ _ _) rfl (.tmp 4) (.tmp 28) rfl rfl rfl ?_))
      have hZ:=su.put 2 rfl (aj r ({M.calm r s x with turn:=1 - s.turn,run:=0 }) A4 c4) rfl;refine bodyPost_ret (bf (p:=4) (hZ.get 2 rfl) Tryz.underlying99 rfl ay rfl _ rfl) rfl ⟨A4,c4,?_,?_,hZ.bw⟩
      · rw [HN.out];rfl
      · rw [HN.out]
        have hg3:¬ (fun b=>wc.heap.size≤b) (w.heap.size+2):=fun h=>by
         have h:wc.heap.size≤w.heap.size+2:=h
         omega
        exact (bQ.sets hg3 _ 0 _ (hr4.below hb5)).more (fun b _ h=>by omega)
  · have hc:x.kind=M.bC:=by have:=E1.out;rw [y1] at this;simpa using this.symm
    have hnx:M.next r s x= {s with over:=true,bP:=1 - x.aG }:=by unfold M.next;rw [if_pos hc]
    have HN:=hide hnx;clear hnx hc;have k9:=(hB.ah rfl).cell (j:=9) rfl
    go_upto_region 3 with (fail)
    go_cut [] (fun wx=>∃ A1 c1,aX w wx [(aj r (s) A1 c1,99),(aA ⟨x,P,d⟩,27),(aY,99)]∧bQ wx (fun b=>w.heap.size+3≤b) A1 c1 s.au)
    case first=>
     go_wp2_with (go_at_call 101;refine (jK S A c s.au _ (hp.below hB.bw)).mono ?_;rintro e w1 ⟨A1,c1,rfl,hr1,hb1⟩;have hD:=hB.call (by simp) hb1;have hFD:=hD.ah rfl;have q9:=hFD.cell (j:=9) rfl;have qf9:=hFD.frozen 9)
     go_meet;exact ⟨A1,c1,hD.set 0 rfl 9 _,(hr1.more (fun b _ h=>by omega)).setCell (fun h=>by have h:w.heap.size+3≤w.heap.size:=h;omega) _⟩
    case rest=>
     clear hB k9 qB;obtain ⟨A1,c1,hB,hr1⟩:=hcut;have Hr:=hB.ah rfl;have Aw:=hB.get 1 rfl;have k16:=Hr.cell (j:=16) rfl;have alf:=Hr.frozen 16;have k17:=Hr.cell (j:=17) rfl;have auA:=Hr.frozen 17;have x0:=Aw.cell (j:=0) rfl;have xf0:=Aw.frozen 0;have hwr:IntKind.i64.wrap (1 - x.aG)=1 - x.aG:=IntWalk.i64_in _ (by omega)
     go_upto_region 4 with (fail)
     go_cut [] (fun wx=>aX w wx [(aj r ({s with over:=true,bP:=1 - x.aG }) A1 c1,99),(aA ⟨x,P,d⟩,27),(aY,99)]∧bQ wx (fun b=>w.heap.size+3≤b) A1 c1 s.au)
     case first=>
      refine wp_region_held_drew (S:=(fun w':World=>w'.cell? ⟨w.heap.size+1,0,none⟩=some (.int .i64 x.aG))) (by kernel_rfl) ?jX (fun hHeld=>?_)
      case jX=>first | exact (hB.get 1 rfl).cell (j:=0) rfl | exact (hB.drew.get 1 rfl).cell (j:=0) rfl | exact ((hB.set 0 rfl 16 _).drew.get 1 rfl).cell (j:=0) rfl | exact (((hB.set 0 rfl 16 _).set 0 rfl 17 _).drew.get 1 rfl).cell (j:=0) rfl
      refine tk 0 ?_;refine tk 1 ?_;refine tk 2 ?_;refine tk 3 ?_;refine tk 4 ?_;refine tr 5 fun K hK=>?_;go_simp;refine hK.out _ _ ?Vy (fun hHeld=>?_)
      case Vy=>(first | (first | exact (hB.get 1 rfl).cell (j:=0) rfl | exact (hB.drew.get 1 rfl).cell (j:=0) rfl | exact ((hB.set 0 rfl 16 _).drew.get 1 rfl).cell (j:=0) rfl | exact (((hB.set 0 rfl 16 _).set 0 rfl 17 _).drew.get 1 rfl).cell (j:=0) rfl) | (dsimp only;first | exact (hB.get 1 rfl).cell (j:=0) rfl | exact (hB.drew.get 1 rfl).cell (j:=0) rfl | exact ((hB.set 0 rfl 16 _).drew.get 1 rfl).cell (j:=0) rfl | exact (((hB.set 0 rfl 16 _).set 0 rfl 17 _).drew.get 1 rfl).cell (j:=0) rfl))
      clear hK K
      try simp only [Act.put,la,lz,ls]
      refine tk 6 ?_;refine tk 7 ?_;refine tr 8 fun K hK=>?_;go_simp;refine hK.out _ _ ?Vz (fun hHeld=>?_)
      case Vz=>(first | (first | exact (hB.get 1 rfl).cell (j:=0) rfl | exact (hB.drew.get 1 rfl).cell (j:=0) rfl | exact ((hB.set 0 rfl 16 _).drew.get 1 rfl).cell (j:=0) rfl | exact (((hB.set 0 rfl 16 _).set 0 rfl 17 _).drew.get 1 rfl).cell (j:=0) rfl) | (dsimp only;first | exact (hB.get 1 rfl).cell (j:=0) rfl | exact (hB.drew.get 1 rfl).cell (j:=0) rfl | exact ((hB.set 0 rfl 16 _).drew.get 1 rfl).cell (j:=0) rfl | exact (((hB.set 0 rfl 16 _).set 0 rfl 17 _).drew.get 1 rfl).cell (j:=0) rfl))
      clear hK K
      try simp only [Act.put,la,lz,ls]
      refine wpAnyH_done (by kernel_rfl) ?_ _;go_wp2;go_meet;exact ⟨((hB.set 0 rfl 16 _).set 0 rfl 17 _).drew,(hr1.setCell (fun h=>by have h:w.heap.size+3≤w.heap.size:=h;omega) _).setCell (fun h=>by have h:w.heap.size+3≤w.heap.size:=h;omega) _⟩
     case rest=>
      clear hB hr1 Hr Aw k16 k17 x0 alf auA xf0;obtain ⟨hB,hr1⟩:=hcut
      go_wp2_with (first | (refine aB 99 (.tmp 2) rfl ?_;refine ak (hB.ah rfl) Tryz.underlying99 rfl ay rfl (.tmp 2) rfl rfl ?_) | (refine aO 99 (.tmp 4) (.tmp 22) rfl ?_;refine aF (hB.get 2 rfl) (aj r ({s with over:=true,bP:=1 - x.aG }) A1 c1) rfl ay (bM _ _ _ _) rfl (.tmp 4) (.tmp 22) rfl rfl rfl ?_))
      have hZ:=hB.put 2 rfl (aj r ({s with over:=true,bP:=1 - x.aG }) A1 c1) rfl;refine bodyPost_ret (bf (p:=4) (hZ.get 2 rfl) Tryz.underlying99 rfl ay rfl _ rfl) rfl ⟨A1,c1,?_,?_,hZ.bw⟩
      · rw [HN.out];rfl
      · rw [HN.out]
        have hg3:¬ (fun b=>w.heap.size+3≤b) (w.heap.size+2):=fun h=>by
         have h:w.heap.size+3≤w.heap.size+2:=h
         omega
        exact (bQ.sets hg3 _ 0 _ hr1).more (fun b _ h=>by omega)
end Go.Proofs.YtcjglfbpjkdgiaaGreatDoor
