/- Parts of a proof. -/
import Derived.Test.YtjbbfmofpjflmaaGreatDoorKr20
set_option maxHeartbeats 2000000
set_option maxRecDepth 100000
set_option linter.unusedVariables false
set_option linter.unusedSimpArgs false
namespace Go.Proofs.YtjbbfmofpjflmaaGreatDoor
open Go.RowKit
def aS (s:Sk.State) (ph:ByteArray) (re co:Int) (fo:Bool) (wi:Int):Sk.State:=⟨s.turn,s.s0,s.s1,s.brk,ph,re,co,s.free,fo,s.aO,s.t0,s.t1,wi⟩
theorem FK (s:Sk.State) (e:Sk.Entry) (v:Sk.dI) (r:Int) (yt:Bool) (hpf:s.phase=Sk.bH) (hr:s.aY - Sk.count e.aF Sk.bG=r) (hy:(decide (v.gU=0∧Sk.has e.aF (Sk.iM s.colour)=true))=yt):Sk.bZ s e v=(if s.colour<7 then (if yt=true then (aS s s.phase r (s.colour+1) s.aN s.ay) else (aS s s.phase r s.colour s.aN s.ay)) else if v.gU=0∧yt=false then (aS s s.phase r s.colour s.aN s.ay) else if Sk.leader (aS s s.phase r s.colour s.aN s.ay)<2 then (aS s s.phase r s.colour false (Sk.leader (aS s s.phase r s.colour s.aN s.ay))) else if yt=true then Sk.pass (aS s s.phase r s.colour s.aN s.ay) else (aS s s.phase r s.colour s.aN s.ay)):=by
 unfold Sk.bZ
 rw [if_neg (by simpa using hpf)]
 simp only [hr,hy]
 rfl
theorem yV (S:Nat→Prop) (g:Sk.Game) (s:Sk.State) (e:En) (v:Sk.dI) (w:World) (ht:s.turn=0∨s.turn=1) (hc:0≤s.colour∧s.colour≤7) (hre:0≤s.aY∧s.aY≤15) (he:iL w S e):Calls Tryz.prog 112 #[lX g,jE s,rU e,FD v] w fun e_ w'=>e_= .returned (jE (Sk.bZ s e.x v))∧Below w.heap.size w w':=by
 obtain ⟨p4,p5,p6⟩:=he.aF.bd;have hcb:=yE e.x.aF Sk.bG
 go_enter Tryz.func112,Tryz.ntmps112
 go_upto_region 0 with (fail)
 go_cut [4,5,6,7,8] (fun v4 v5 v6 v7 v8 wx=>v4=ptr w.heap.size∧v5=ptr (w.heap.size+1)∧v6=ptr (w.heap.size+2)∧v7=ptr (w.heap.size+3)∧v8=ptr (w.heap.size+4)∧aG w wx [(bK g,23),(aC s,26),(dn e,83),(dV v,78),(aC Sk.zero,26)])
 case first=>
  go_wp2;go_meet;exact ⟨rfl,rfl,rfl,rfl,rfl,((((((aG.nil w).new (by simp) (bK g) _).new (by simp) (aC s) _).new (by simp) (dn e) _).new (by simp) (dV v) _).new (by simp) (aC Sk.zero) _)⟩
 case rest=>
  obtain ⟨rfl,rfl,rfl,rfl,rfl,hB⟩:=hcut;have hpo:=he.aF.below hB.bw;have x3:=(hB.get 2 rfl).cell (j:=3) rfl;have s5:=(hB.get 1 rfl).cell (j:=5) rfl;have s5f:=(hB.get 1 rfl).frozen 5
  go_upto_region 1 with (fail)
  go_cut [] (fun wx=>aG w wx [(bK g,23),(aC (aS s s.phase (s.aY - Sk.count e.x.aF Sk.bG) s.colour s.aN s.ay),26),(dn e,83),(dV v,78),(aC Sk.zero,26)])
  case first=>
   have hwr:IntKind.i64.wrap (s.aY - Sk.count e.x.aF Sk.bG)=s.aY - Sk.count e.x.aF Sk.bG:=by rw [IntKind.wrap_i64];omega
   have hE:aG w ((wc.drewN 1).setCell ⟨w.heap.size+1,5,none⟩ (.int .i64 (s.aY - Sk.count e.x.aF Sk.bG))) [(bK g,23),(aC (aS s s.phase (s.aY - Sk.count e.x.aF Sk.bG) s.colour s.aN s.ay),26),(dn e,83),(dV v,78),(aC Sk.zero,26)]:=(hB.drewN 1).set 1 rfl 5 _;refine wp_region_held_drew (S:=(fun w':World=>w'.cell? ⟨w.heap.size+2,3,none⟩=wc.cell? ⟨w.heap.size+2,3,none⟩)) (by kernel_rfl) ?bg (fun hHeld=>?_)
   case bg=>exact rfl
   refine aA 0 ?_;refine aA 2 ?_;refine aA 3 ?_;refine iR 1 4 (fun K hK=>?_) fun K hK=>?_
   · go_simp
     refine ak hK (rfl) fun hHeld=>?_;clear hK K;refine aB 4 fun K hK=>?_;go_simp
     (go_at_call 168;refine (iV S e.B e.b e.x.aF Sk.bG _ (hpo.drewN 1)).mono ?_;rintro e1 w9 ⟨rfl,rfl⟩)
     refine ak hK (rfl) fun hHeld=>?_;clear hK K;refine aA 5 ?_;refine aA 6 ?_;refine aB 7 fun K hK=>?_;go_simp;refine ak hK ((World.cell?_setCell_other _ _ _ _ (by intro h;simp at h))) fun hHeld=>?_;clear hK K;refine wpAnyH_done (by kernel_rfl) ?_ _;go_wp2;go_meet;exact hE
   · go_simp
     (go_at_call 168;refine (iV S e.B e.b e.x.aF Sk.bG _ (hpo.drewN 1)).mono ?_;rintro e1 w9 ⟨rfl,rfl⟩)
     refine ak hK (rfl) fun hHeld=>?_;clear hK K;refine aB 1 fun K hK=>?_;go_simp;refine ak hK (rfl) fun hHeld=>?_;clear hK K;refine aA 5 ?_;refine aA 6 ?_;refine aB 7 fun K hK=>?_;go_simp;refine ak hK ((World.cell?_setCell_other _ _ _ _ (by intro h;simp at h))) fun hHeld=>?_;clear hK K;refine wpAnyH_done (by kernel_rfl) ?_ _;go_wp2;go_meet;exact hE
  case rest=>
   obtain ⟨r,hr⟩:∃ r,s.aY - Sk.count e.x.aF Sk.bG=r:=⟨_,rfl⟩;rw [hr] at hcut;have HR:=hide hr;have hB:=hcut;clear hcut x3 s5 s5f hpo;have s4:_=some (Value.string s.phase):=(hB.get 1 rfl).cell (j:=4) rfl;have s4f:=(hB.get 1 rfl).frozen 4;have s5:_=some (Value.int .i64 r):=(hB.get 1 rfl).cell (j:=5) rfl;have s6:_=some (Value.int .i64 s.colour):=(hB.get 1 rfl).cell (j:=6) rfl;have s6f:=(hB.get 1 rfl).frozen 6;have u3:=(hB.get 3 rfl).cell (j:=3) rfl;have u1:=(hB.get 3 rfl).cell (j:=1) rfl;clear hr
   by_cases hpf:s.phase=Sk.bH
   · have hsz:=hB.size (by simp)
     simp only [List.length_cons,List.length_nil] at hsz
     have x3:=(hB.get 2 rfl).cell (j:=3) rfl;obtain ⟨n,hn⟩:∃ n:Nat,s.colour=n:=⟨s.colour.toNat,by omega⟩
     have Zo:n<8:=by omega
     have hix:=fun W=>Gf n Zo W
     have hbl:Sk.iM s.colour=Sk.dX[n]'Zo:=by unfold Sk.iM;rw [hn,Int.toNat_natCast,List.getD_eq_getElem?_getD,List.getElem?_eq_getElem (show n<Sk.dX.length from Zo)];rfl
     obtain ⟨b,hb⟩:∃ b,Sk.dX[n]'Zo=b:=⟨_,rfl⟩
     simp only [hb] at hix hbl
     have hhp:=fun W (hb:Below w.heap.size w W)=>iF S e.B e.b e.x.aF b W (he.aF.below hb);obtain ⟨yp,hyp⟩:∃ y,Sk.has e.x.aF b=y:=⟨_,rfl⟩
     simp only [hyp] at hhp
     have HHP:=hide hhp;obtain ⟨yt,Og⟩:∃ y,decide (v.gU=0∧Sk.has e.x.aF (Sk.iM s.colour)=true)=y:=⟨_,rfl⟩;have Xh:=hide (FK s e.x v r yt hpf HR.out Og);rw [hbl,hyp] at Og;have HYT:=hide Og;have HN:=hide hn;clear hhp hyp Og hb hbl;have EK:=wt hpf
     have X6:(s.phase.toList != [102,105,110,97,108])=false:=by rw [bne,EK];rfl
     clear hpf
     go_upto_region 9 with (fail)
     go_cut [9] (fun v9 wx=>v9= .bool yt∧aG w wx [(bK g,23),(aC (aS s s.phase r s.colour s.aN s.ay),26),(dn e,83),(dV v,78),(aC Sk.zero,26)])
     case first=>
      rw [hn] at s6
      by_cases hf:v.gU=0
      · have hf1:(v.gU == 0)=true:=by simp [hf]
        have HF:=hide hf;clear hf;refine wp_region_held_drew (S:=(fun w':World=>∀ p q,p<w.heap.size+5→w'.cell? ⟨p,q,none⟩=wc.cell? ⟨p,q,none⟩)) (by kernel_rfl) ?bV (fun hHeld=>?_)
        case bV=>exact fun p q h=>rfl
        refine aA 0 ?_;refine aA 1 ?_;refine aA 2 ?_;refine aA 3 ?_;refine aA 4 ?_;refine aA 5 ?_;refine aA 7 ?_;refine aA 8 ?_;refine aB 6 fun K hK=>?_;go_simp
        (go_at_call 94;refine (qg _).mono ?_;rintro e1 w1 ⟨rfl,hb1⟩;have hB1:=hB.drew.call (by simp) hb1;have hb8:Below wc.heap.size wc w1:=⟨hb1.os,hb1.tape,hb1.output,hb1.size,hb1.block⟩)
        refine ak hK (fun p q h=>hb8.cell (p:=⟨p,q,none⟩) (Nat.lt_of_lt_of_le h hsz)) fun hHeld=>?_;clear hK K;refine aA 9 ?_;refine aB 10 fun K hK=>?_;go_simp
        (go_at_call 68;refine (HHP.out _ hB1.bw).mono ?_;rintro e1 w9 ⟨rfl,rfl⟩)
        refine ak hK (fun p q h=>hb8.cell (p:=⟨p,q,none⟩) (Nat.lt_of_lt_of_le h hsz)) fun hHeld=>?_;clear hK K;refine aA 11 ?_;refine aA 12 ?_;refine wpAnyH_done (by kernel_rfl) ?_ _;go_wp2;go_meet;exact ⟨dO (by have h:=HYT.out;rw [← h];simp [HF.out]),hB1⟩
      · have hf1:(v.gU == 0)=false:=by simp [hf]
        have HF:=hide hf;clear hf;refine wp_region_held_drew (S:=(fun w':World=>∀ p q,p<w.heap.size+5→w'.cell? ⟨p,q,none⟩=wc.cell? ⟨p,q,none⟩)) (by kernel_rfl) ?dJ (fun hHeld=>?_)
        case dJ=>exact fun p q h=>rfl
        refine aA 0 ?_;refine aA 1 ?_;refine aA 2 ?_;refine aA 3 ?_;refine iP 4 ?_;refine iP 5 ?_;refine iP 6 ?_;refine iP 7 ?_;refine iP 8 ?_;refine iP 9 ?_;refine iP 10 ?_;refine aA 11 ?_;refine aA 12 ?_;refine wpAnyH_done (by kernel_rfl) ?_ _;go_wp2;go_meet;exact ⟨dO (by have h:=HYT.out;rw [← h];simp [HF.out]),hB.drew⟩
     case rest=>
      obtain ⟨rfl,hB1⟩:=hcut;have hB:=hB1;clear hB1 hix x3 hsz s4 s4f s5 s6 s6f u1 u3 hn;have s6:_=some (Value.int .i64 s.colour):=(hB.get 1 rfl).cell (j:=6) rfl;have s6f:=(hB.get 1 rfl).frozen 6;have u1:=(hB.get 3 rfl).cell (j:=1) rfl
      by_cases h7:s.colour<7
      · have h71:decide (s.colour<7)=true:=decide_eq_true h7
        cases yt
        · have HM:=hide (show Sk.bZ s e.x v=(aS s s.phase r s.colour s.aN s.ay) by rw [Xh.out];rw [if_pos h7];rfl)
          clear h7
          go_wp2_with (first | ((with_reducible refine bJ 26 5 ?_);refine dW (hB.get 1 rfl) Tryz.underlying26 aj ?_) | ((with_reducible refine isS 26 8 58 ?_);refine fU (hB.get 4 rfl) (aC (aS s s.phase r s.colour s.aN s.ay)) aj (aT _) ?_))
          have hZ:=hB.put 4 rfl (aC (aS s s.phase r s.colour s.aN s.ay)) rfl;refine bodyPost_ret (aI (p:=8) (hZ.get 4 rfl) Tryz.underlying26 rfl aj rfl _ rfl) rfl ⟨?_,hZ.bw⟩;rw [HM.out];rfl
        · have HM:=hide (show Sk.bZ s e.x v=(aS s s.phase r (s.colour+1) s.aN s.ay) by rw [Xh.out];rw [if_pos h7];rfl)
          have hE:aG w (wc.setCell ⟨w.heap.size+1,6,none⟩ (.int .i64 (s.colour+1))) [(bK g,23),(aC (aS s s.phase r (s.colour+1) s.aN s.ay),26),(dn e,83),(dV v,78),(aC Sk.zero,26)]:=hB.set 1 rfl 6 _;clear h7
          go_wp2_with (first | ((with_reducible refine bJ 26 5 ?_);refine dW (hE.get 1 rfl) Tryz.underlying26 aj ?_) | ((with_reducible refine isS 26 8 58 ?_);refine fU (hE.get 4 rfl) (aC (aS s s.phase r (s.colour+1) s.aN s.ay)) aj (aT _) ?_))
          have hZ:=hE.put 4 rfl (aC (aS s s.phase r (s.colour+1) s.aN s.ay)) rfl;refine bodyPost_ret (aI (p:=8) (hZ.get 4 rfl) Tryz.underlying26 rfl aj rfl _ rfl) rfl ⟨?_,hZ.bw⟩;rw [HM.out];rfl
      · have h71:decide (s.colour<7)=false:=decide_eq_false h7
        by_cases hf:v.gU=0
        · have hf1:(v.gU == 0)=true:=by simp [hf]
          cases yt
          · have HM:=hide (show Sk.bZ s e.x v=(aS s s.phase r s.colour s.aN s.ay) by rw [Xh.out];rw [if_neg h7,if_pos ⟨hf,rfl⟩])
            clear h7 hf
            go_wp2_with (first | ((with_reducible refine bJ 26 5 ?_);refine dW (hB.get 1 rfl) Tryz.underlying26 aj ?_) | ((with_reducible refine isS 26 8 66 ?_);refine fU (hB.get 4 rfl) (aC (aS s s.phase r s.colour s.aN s.ay)) aj (aT _) ?_))
            have hZ:=hB.put 4 rfl (aC (aS s s.phase r s.colour s.aN s.ay)) rfl;refine bodyPost_ret (aI (p:=8) (hZ.get 4 rfl) Tryz.underlying26 rfl aj rfl _ rfl) rfl ⟨?_,hZ.bw⟩;rw [HM.out];rfl
          · have Ou:=hide (show ¬ (v.gU=0∧true=false) by simp)
            clear hf
            by_cases hl:Sk.leader (aS s s.phase r s.colour s.aN s.ay)<2
            · have hl1:decide (Sk.leader (aS s s.phase r s.colour s.aN s.ay)<2)=true:=decide_eq_true hl
              have HM:=hide (show Sk.bZ s e.x v=(aS s s.phase r s.colour false (Sk.leader (aS s s.phase r s.colour s.aN s.ay))) by rw [Xh.out];rw [if_neg h7,if_neg Ou.out,if_pos hl]);have HL:=hide hl;clear hl h7
              go_wp2_with (first | ((with_reducible refine bJ 26 5 ?_);refine dW (hE.get 1 rfl) Tryz.underlying26 aj ?_) | ((with_reducible refine bJ 26 5 ?_);refine dW (hB.get 1 rfl) Tryz.underlying26 aj ?_) | (go_at_call 173;refine (iC (aS s s.phase r s.colour s.aN s.ay) _).mono ?_;rintro e1 w5 ⟨rfl,hb5⟩;have hB:=hB.call (by simp) hb5;have q12:=(hB.get 1 rfl).cell (j:=12) rfl;have Yu:=(hB.get 1 rfl).frozen 12;have q8:=(hB.get 1 rfl).cell (j:=8) rfl;have q8f:=(hB.get 1 rfl).frozen 8;have hE1:aG w (w5.setCell ⟨w.heap.size+1,12,none⟩ (.int .i64 (Sk.leader (aS s s.phase r s.colour s.aN s.ay)))) [(bK g,23),(aC (aS s s.phase r s.colour s.aN (Sk.leader (aS s s.phase r s.colour s.aN s.ay))),26),(dn e,83),(dV v,78),(aC Sk.zero,26)]:=hB.set 1 rfl 12 _;have hE:aG w ((w5.setCell ⟨w.heap.size+1,12,none⟩ (.int .i64 (Sk.leader (aS s s.phase r s.colour s.aN s.ay)))).setCell ⟨w.heap.size+1,8,none⟩ (.bool false)) [(bK g,23),(aC (aS s s.phase r s.colour false (Sk.leader (aS s s.phase r s.colour s.aN s.ay))),26),(dn e,83),(dV v,78),(aC Sk.zero,26)]:=hE1.set 1 rfl 8 _) | ((with_reducible refine isS 26 8 74 ?_);refine fU (hE.get 4 rfl) (aC (aS s s.phase r s.colour false (Sk.leader (aS s s.phase r s.colour s.aN s.ay)))) aj (aT _) ?_))
              have hZ:=hE.put 4 rfl (aC (aS s s.phase r s.colour false (Sk.leader (aS s s.phase r s.colour s.aN s.ay)))) rfl;refine bodyPost_ret (aI (p:=8) (hZ.get 4 rfl) Tryz.underlying26 rfl aj rfl _ rfl) rfl ⟨?_,hZ.bw⟩;rw [HM.out];rfl
            · have hl1:decide (Sk.leader (aS s s.phase r s.colour s.aN s.ay)<2)=false:=decide_eq_false hl
              have HM:=hide (show Sk.bZ s e.x v=(Sk.pass (aS s s.phase r s.colour s.aN s.ay)) by rw [Xh.out];rw [if_neg h7,if_neg Ou.out,if_neg hl];rfl);have HL:=hide hl;clear hl h7
              go_wp2_with (first | ((with_reducible refine bJ 26 5 ?_);refine dW (hB.get 1 rfl) Tryz.underlying26 aj ?_) | (go_at_call 173;refine (iC (aS s s.phase r s.colour s.aN s.ay) _).mono ?_;rintro e1 w5 ⟨rfl,hb5⟩;have hB:=hB.call (by simp) hb5;have q12:=(hB.get 1 rfl).cell (j:=12) rfl;have Yu:=(hB.get 1 rfl).frozen 12;have q8:=(hB.get 1 rfl).cell (j:=8) rfl;have q8f:=(hB.get 1 rfl).frozen 8;have hE1:aG w (w5.setCell ⟨w.heap.size+1,12,none⟩ (.int .i64 (Sk.leader (aS s s.phase r s.colour s.aN s.ay)))) [(bK g,23),(aC (aS s s.phase r s.colour s.aN (Sk.leader (aS s s.phase r s.colour s.aN s.ay))),26),(dn e,83),(dV v,78),(aC Sk.zero,26)]:=hB.set 1 rfl 12 _;have hE:aG w ((w5.setCell ⟨w.heap.size+1,12,none⟩ (.int .i64 (Sk.leader (aS s s.phase r s.colour s.aN s.ay)))).setCell ⟨w.heap.size+1,8,none⟩ (.bool false)) [(bK g,23),(aC (aS s s.phase r s.colour false (Sk.leader (aS s s.phase r s.colour s.aN s.ay))),26),(dn e,83),(dV v,78),(aC Sk.zero,26)]:=hE1.set 1 rfl 8 _) | (go_at_call 140;refine (nN (aS s s.phase r s.colour s.aN s.ay) ht _).mono ?_;rintro e1 w6 ⟨rfl,hb6⟩;have hB:=hB.call (by simp) hb6) | ((with_reducible refine isS 26 8 77 ?_);refine fU (hB.get 4 rfl) (aC (Sk.pass (aS s s.phase r s.colour s.aN s.ay))) aj (aT _) ?_))
              have hZ:=hB.put 4 rfl (aC (Sk.pass (aS s s.phase r s.colour s.aN s.ay))) rfl;refine bodyPost_ret (aI (p:=8) (hZ.get 4 rfl) Tryz.underlying26 rfl aj rfl _ rfl) rfl ⟨?_,hZ.bw⟩;rw [HM.out];rfl
        · have hf1:(v.gU == 0)=false:=by simp [hf]
          cases yt
          · have Ou:=hide (show ¬ (v.gU=0∧false=false) by simp [hf])
            clear hf
            by_cases hl:Sk.leader (aS s s.phase r s.colour s.aN s.ay)<2
            · have hl1:decide (Sk.leader (aS s s.phase r s.colour s.aN s.ay)<2)=true:=decide_eq_true hl
              have HM:=hide (show Sk.bZ s e.x v=(aS s s.phase r s.colour false (Sk.leader (aS s s.phase r s.colour s.aN s.ay))) by rw [Xh.out];rw [if_neg h7,if_neg Ou.out,if_pos hl]);have HL:=hide hl;clear hl h7
              go_wp2_with (first | ((with_reducible refine bJ 26 5 ?_);refine dW (hE.get 1 rfl) Tryz.underlying26 aj ?_) | ((with_reducible refine bJ 26 5 ?_);refine dW (hB.get 1 rfl) Tryz.underlying26 aj ?_) | (go_at_call 173;refine (iC (aS s s.phase r s.colour s.aN s.ay) _).mono ?_;rintro e1 w5 ⟨rfl,hb5⟩;have hB:=hB.call (by simp) hb5;have q12:=(hB.get 1 rfl).cell (j:=12) rfl;have Yu:=(hB.get 1 rfl).frozen 12;have q8:=(hB.get 1 rfl).cell (j:=8) rfl;have q8f:=(hB.get 1 rfl).frozen 8;have hE1:aG w (w5.setCell ⟨w.heap.size+1,12,none⟩ (.int .i64 (Sk.leader (aS s s.phase r s.colour s.aN s.ay)))) [(bK g,23),(aC (aS s s.phase r s.colour s.aN (Sk.leader (aS s s.phase r s.colour s.aN s.ay))),26),(dn e,83),(dV v,78),(aC Sk.zero,26)]:=hB.set 1 rfl 12 _;have hE:aG w ((w5.setCell ⟨w.heap.size+1,12,none⟩ (.int .i64 (Sk.leader (aS s s.phase r s.colour s.aN s.ay)))).setCell ⟨w.heap.size+1,8,none⟩ (.bool false)) [(bK g,23),(aC (aS s s.phase r s.colour false (Sk.leader (aS s s.phase r s.colour s.aN s.ay))),26),(dn e,83),(dV v,78),(aC Sk.zero,26)]:=hE1.set 1 rfl 8 _) | ((with_reducible refine isS 26 8 74 ?_);refine fU (hE.get 4 rfl) (aC (aS s s.phase r s.colour false (Sk.leader (aS s s.phase r s.colour s.aN s.ay)))) aj (aT _) ?_))
              have hZ:=hE.put 4 rfl (aC (aS s s.phase r s.colour false (Sk.leader (aS s s.phase r s.colour s.aN s.ay)))) rfl;refine bodyPost_ret (aI (p:=8) (hZ.get 4 rfl) Tryz.underlying26 rfl aj rfl _ rfl) rfl ⟨?_,hZ.bw⟩;rw [HM.out];rfl
            · have hl1:decide (Sk.leader (aS s s.phase r s.colour s.aN s.ay)<2)=false:=decide_eq_false hl
              have HM:=hide (show Sk.bZ s e.x v=(aS s s.phase r s.colour s.aN s.ay) by rw [Xh.out];rw [if_neg h7,if_neg Ou.out,if_neg hl];rfl);have HL:=hide hl;clear hl h7
              go_wp2_with (first | ((with_reducible refine bJ 26 5 ?_);refine dW (hB.get 1 rfl) Tryz.underlying26 aj ?_) | (go_at_call 173;refine (iC (aS s s.phase r s.colour s.aN s.ay) _).mono ?_;rintro e1 w5 ⟨rfl,hb5⟩;have hB:=hB.call (by simp) hb5;have q12:=(hB.get 1 rfl).cell (j:=12) rfl;have Yu:=(hB.get 1 rfl).frozen 12;have q8:=(hB.get 1 rfl).cell (j:=8) rfl;have q8f:=(hB.get 1 rfl).frozen 8;have hE1:aG w (w5.setCell ⟨w.heap.size+1,12,none⟩ (.int .i64 (Sk.leader (aS s s.phase r s.colour s.aN s.ay)))) [(bK g,23),(aC (aS s s.phase r s.colour s.aN (Sk.leader (aS s s.phase r s.colour s.aN s.ay))),26),(dn e,83),(dV v,78),(aC Sk.zero,26)]:=hB.set 1 rfl 12 _;have hE:aG w ((w5.setCell ⟨w.heap.size+1,12,none⟩ (.int .i64 (Sk.leader (aS s s.phase r s.colour s.aN s.ay)))).setCell ⟨w.heap.size+1,8,none⟩ (.bool false)) [(bK g,23),(aC (aS s s.phase r s.colour false (Sk.leader (aS s s.phase r s.colour s.aN s.ay))),26),(dn e,83),(dV v,78),(aC Sk.zero,26)]:=hE1.set 1 rfl 8 _) | ((with_reducible refine isS 26 8 78 ?_);refine fU (hB.get 4 rfl) (aC (aS s s.phase r s.colour s.aN s.ay)) aj (aT _) ?_))
              have hZ:=hB.put 4 rfl (aC (aS s s.phase r s.colour s.aN s.ay)) rfl;refine bodyPost_ret (aI (p:=8) (hZ.get 4 rfl) Tryz.underlying26 rfl aj rfl _ rfl) rfl ⟨?_,hZ.bw⟩;rw [HM.out];rfl
          · exfalso;have h:=HYT.out;simp [hf] at h
   · have hp:s.phase≠Sk.bH:=hpf
     have EK:=wf hpf
     have X6:(s.phase.toList != [102,105,110,97,108])=true:=by rw [bne,EK];rfl
     have hr:=HR.out;clear hpf
     by_cases hpr:s.phase=Sk.fM
     · have apj:=wt hpr
       rcases Bool.eq_false_or_eq_true v.stays with hst | hst
       · rw [hst] at u3
         have HM:=hide (show Sk.bZ s e.x v=(aS s Sk.dA r s.colour s.aN s.ay) by unfold Sk.bZ;rw [if_pos hp];rw [if_pos ⟨hpr,hst⟩,hr];rfl);have hE:aG w (wc.setCell ⟨w.heap.size+1,4,none⟩ (.string Sk.dA)) [(bK g,23),(aC (aS s Sk.dA r s.colour s.aN s.ay),26),(dn e,83),(dV v,78),(aC Sk.zero,26)]:=hB.set 1 rfl 4 _;clear hp hpr hst
         go_wp2_with (first | ((with_reducible refine bJ 26 5 ?_);refine dW (hE.get 1 rfl) Tryz.underlying26 aj ?_) | ((with_reducible refine isS 26 8 37 ?_);refine fU (hE.get 4 rfl) (aC (aS s Sk.dA r s.colour s.aN s.ay)) aj (aT _) ?_))
         have hZ:=hE.put 4 rfl (aC (aS s Sk.dA r s.colour s.aN s.ay)) rfl;refine bodyPost_ret (aI (p:=8) (hZ.get 4 rfl) Tryz.underlying26 rfl aj rfl _ rfl) rfl ⟨?_,hZ.bw⟩;rw [HM.out];rfl
       · have Uh:=hide (show ¬ (s.phase=Sk.fM∧v.stays=true) by rw [hst];simp)
         rw [hst] at u3;clear hst hpr
         by_cases h0:0<r
         · have h01:decide (0<r)=true:=decide_eq_true h0
           have HM:=hide (show Sk.bZ s e.x v=(aS s Sk.fM r s.colour s.aN s.ay) by unfold Sk.bZ;rw [if_pos hp];rw [if_neg Uh.out,hr,if_pos h0];rfl);have hE:aG w (wc.setCell ⟨w.heap.size+1,4,none⟩ (.string Sk.fM)) [(bK g,23),(aC (aS s Sk.fM r s.colour s.aN s.ay),26),(dn e,83),(dV v,78),(aC Sk.zero,26)]:=hB.set 1 rfl 4 _;clear hp Uh h0
           go_wp2_with (first | ((with_reducible refine bJ 26 5 ?_);refine dW (hE.get 1 rfl) Tryz.underlying26 aj ?_) | ((with_reducible refine isS 26 8 37 ?_);refine fU (hE.get 4 rfl) (aC (aS s Sk.fM r s.colour s.aN s.ay)) aj (aT _) ?_))
           have hZ:=hE.put 4 rfl (aC (aS s Sk.fM r s.colour s.aN s.ay)) rfl;refine bodyPost_ret (aI (p:=8) (hZ.get 4 rfl) Tryz.underlying26 rfl aj rfl _ rfl) rfl ⟨?_,hZ.bw⟩;rw [HM.out];rfl
         · have h01:decide (0<r)=false:=decide_eq_false h0
           have HM:=hide (show Sk.bZ s e.x v=(aS s Sk.bH r 2 s.aN s.ay) by unfold Sk.bZ;rw [if_pos hp];rw [if_neg Uh.out,hr,if_neg h0];rfl);have hE1:aG w (wc.setCell ⟨w.heap.size+1,4,none⟩ (.string Sk.bH)) [(bK g,23),(aC (aS s Sk.bH r s.colour s.aN s.ay),26),(dn e,83),(dV v,78),(aC Sk.zero,26)]:=hB.set 1 rfl 4 _;have hE:aG w ((wc.setCell ⟨w.heap.size+1,4,none⟩ (.string Sk.bH)).setCell ⟨w.heap.size+1,6,none⟩ (.int .i64 2)) [(bK g,23),(aC (aS s Sk.bH r 2 s.aN s.ay),26),(dn e,83),(dV v,78),(aC Sk.zero,26)]:=hE1.set 1 rfl 6 _;clear hp Uh h0
           go_wp2_with (first | ((with_reducible refine bJ 26 5 ?_);refine dW (hE.get 1 rfl) Tryz.underlying26 aj ?_) | ((with_reducible refine isS 26 8 37 ?_);refine fU (hE.get 4 rfl) (aC (aS s Sk.bH r 2 s.aN s.ay)) aj (aT _) ?_))
           have hZ:=hE.put 4 rfl (aC (aS s Sk.bH r 2 s.aN s.ay)) rfl;refine bodyPost_ret (aI (p:=8) (hZ.get 4 rfl) Tryz.underlying26 rfl aj rfl _ rfl) rfl ⟨?_,hZ.bw⟩;rw [HM.out];rfl
     · have apj:=wf hpr
       have Uh:=hide (show ¬ (s.phase=Sk.fM∧v.stays=true) by rintro ⟨h,_⟩;exact hpr h);clear hpr
       by_cases h0:0<r
       · have h01:decide (0<r)=true:=decide_eq_true h0
         have HM:=hide (show Sk.bZ s e.x v=(aS s Sk.fM r s.colour s.aN s.ay) by unfold Sk.bZ;rw [if_pos hp];rw [if_neg Uh.out,hr,if_pos h0];rfl);have hE:aG w (wc.setCell ⟨w.heap.size+1,4,none⟩ (.string Sk.fM)) [(bK g,23),(aC (aS s Sk.fM r s.colour s.aN s.ay),26),(dn e,83),(dV v,78),(aC Sk.zero,26)]:=hB.set 1 rfl 4 _;clear hp Uh h0
         go_wp2_with (first | ((with_reducible refine bJ 26 5 ?_);refine dW (hE.get 1 rfl) Tryz.underlying26 aj ?_) | ((with_reducible refine isS 26 8 37 ?_);refine fU (hE.get 4 rfl) (aC (aS s Sk.fM r s.colour s.aN s.ay)) aj (aT _) ?_))
         have hZ:=hE.put 4 rfl (aC (aS s Sk.fM r s.colour s.aN s.ay)) rfl;refine bodyPost_ret (aI (p:=8) (hZ.get 4 rfl) Tryz.underlying26 rfl aj rfl _ rfl) rfl ⟨?_,hZ.bw⟩;rw [HM.out];rfl
       · have h01:decide (0<r)=false:=decide_eq_false h0
         have HM:=hide (show Sk.bZ s e.x v=(aS s Sk.bH r 2 s.aN s.ay) by unfold Sk.bZ;rw [if_pos hp];rw [if_neg Uh.out,hr,if_neg h0];rfl);have hE1:aG w (wc.setCell ⟨w.heap.size+1,4,none⟩ (.string Sk.bH)) [(bK g,23),(aC (aS s Sk.bH r s.colour s.aN s.ay),26),(dn e,83),(dV v,78),(aC Sk.zero,26)]:=hB.set 1 rfl 4 _;have hE:aG w ((wc.setCell ⟨w.heap.size+1,4,none⟩ (.string Sk.bH)).setCell ⟨w.heap.size+1,6,none⟩ (.int .i64 2)) [(bK g,23),(aC (aS s Sk.bH r 2 s.aN s.ay),26),(dn e,83),(dV v,78),(aC Sk.zero,26)]:=hE1.set 1 rfl 6 _;clear hp Uh h0
         go_wp2_with (first | ((with_reducible refine bJ 26 5 ?_);refine dW (hE.get 1 rfl) Tryz.underlying26 aj ?_) | ((with_reducible refine isS 26 8 37 ?_);refine fU (hE.get 4 rfl) (aC (aS s Sk.bH r 2 s.aN s.ay)) aj (aT _) ?_))
         have hZ:=hE.put 4 rfl (aC (aS s Sk.bH r 2 s.aN s.ay)) rfl;refine bodyPost_ret (aI (p:=8) (hZ.get 4 rfl) Tryz.underlying26 rfl aj rfl _ rfl) rfl ⟨?_,hZ.bw⟩;rw [HM.out];rfl
theorem qG (S:Nat→Prop) (g:Sk.Game) (s:Sk.State) (e:En) (w:World) (ht:s.turn=0∨s.turn=1) (hc:0≤s.colour∧s.colour≤7) (he:iL w S e):
 Calls Tryz.prog (gV g.kind) #[jE s,rU e] w fun e_ w'=>e_= .returned (FD (Sk.judge g s e.x))∧Below w.heap.size w w':=by
 unfold gV Sk.judge
 split
 · exact yY S s e w hc he
 · split
   · exact vV S s e w ht he
   · exact Am S s e w ht he
structure wQ (s:Sk.State):Prop where
 turn:s.turn=0∨s.turn=1
 colour:0≤s.colour∧s.colour≤7
 aY:0≤s.aY∧s.aY≤15
 aO:0≤s.aO∧s.aO≤5
 t0:0≤s.t0∧s.t0≤100
 t1:0≤s.t1∧s.t1≤100
theorem nH (S:Nat→Prop) (g:Sk.Game) (s:Sk.State) (e:En) (v:Sk.dI) (w:World) (h:wQ s) (he:iL w S e):
 Calls Tryz.prog (gJ g.kind) #[lX g,jE s,rU e,FD v] w fun e_ w'=>e_= .returned (jE (Sk.after g s e.x v))∧Below w.heap.size w w':=by
 unfold gJ Sk.after
 split
 · exact yV S g s e v w h.turn h.colour h.aY he
 · split
   · exact vU S g s e v w h.turn h.aO he
   · exact Ak g s e v w h.turn h.t0 h.t1
theorem Dx (S:Nat→Prop) (g:Sk.Game) (s:Sk.State) (e:En) (w:World) (ht:s.turn=0∨s.turn=1) (he:iL w S e):
 Calls Tryz.prog (iq g.kind) #[jE s,rU e] w fun e_ w'=>e_= .returned (.bool (Sk.kK g s e.x))∧Below w.heap.size w w':=by
 unfold iq Sk.kK
 split
 · exact yX S s e w he
 · split
   · exact wY S s e w ht he
   · exact wY S s e w ht he
theorem MI {g:Sk.Game} {s:Sk.State} (h:Sk.Ok g s):wQ s:=by
 have hi:=h.inr;have hg:=Sk.iW h.game;have h1:=hi.aY;have h2:=hi.t0;have h3:=hi.t1;refine ⟨hi.turn,hi.colour,?_,hi.aO,?_,?_⟩
 all_goals rcases hg with ⟨_,h4,_,h5⟩ | ⟨_,h4,_,h5⟩ | ⟨_,h4,_,h5⟩ <;> omega
theorem DZ {g:Sk.Game} {s:Sk.State} {v:Sk.dI} (h:wQ s):wQ (if v.stays=true then Sk.jk g s v else Sk.pass (Sk.jk g s v)):=by
 have ht:=h.turn
 split
 · exact ⟨h.turn,h.colour,h.aY,h.aO,h.t0,h.t1⟩
 · exact ⟨by show 1 - s.turn=0∨1 - s.turn=1;omega,h.colour,h.aY,by show 0≤(0:Int)∧(0:Int)≤5;omega,h.t0,h.t1⟩
def cA (s:Sk.State) (fo:Bool) (a b br:Int):Sk.State:=⟨s.turn,a,b,br,s.phase,s.aY,s.colour,false,fo,s.aO,s.t0,s.t1,s.ay⟩
theorem Hz (S:Nat→Prop) (g:Sk.Game) (s:Sk.State) (e:En) (w:World) (hk:Sk.jB g.kind=true) (hm:wQ s) (he:iL w S e) (hr0:0≤s.s0∧s.s0≤99999) (hr1:0≤s.s1∧s.s1≤99999) (hrb:0≤s.brk∧s.brk≤99999)
 (hvp:0≤(Sk.judge g s e.x).points∧(Sk.judge g s e.x).points≤1000000) (hvq:0≤(Sk.judge g s e.x).penalty∧(Sk.judge g s e.x).penalty≤1000000):
 Calls Tryz.prog 139 #[lX g,jE s,rU e] w fun e_ w'=>e_= .returned (jE (Sk.sW g s e.x))∧Below w.heap.size w w':=by
 go_enter Tryz.func139,Tryz.ntmps139
 go_upto_region 0 with (fail)
 go_cut [3,4,5,6] (fun v3 v4 v5 v6 wx=>v3=ptr w.heap.size∧v4=ptr (w.heap.size+1)∧v5=ptr (w.heap.size+2)∧v6=ptr (w.heap.size+3)∧aG w wx [(bK g,23),(aC s,26),(dn e,83),(aC Sk.zero,26)])
 case first=>
  go_wp2;go_meet;exact ⟨rfl,rfl,rfl,rfl,(((((aG.nil w).new (by simp) (bK g) _).new (by simp) (aC s) _).new (by simp) (dn e) _).new (by simp) (aC Sk.zero) _)⟩
 case rest=>
  obtain ⟨rfl,rfl,rfl,rfl,hB⟩:=hcut;have k0:=(hB.au rfl).cell (j:=0) rfl;have K0:=hB.keeps 4 rfl (by omega)
  go_upto_region 1 with (fail)
  go_cut [7] (fun v7 wx=>∃ D N,v7=ptr D∧Held wx D (BK (N+1+gI g.kind) (oN (gI g.kind)).length (ji g.kind) (iw g.kind) (iq g.kind) (gV g.kind) (gJ g.kind)) 121∧w.heap.size+4≤D∧aG w wx [(bK g,23),(aC s,26),(dn e,83),(aC Sk.zero,26)])
  case first=>
   refine wp_region_held_drew (S:=(fun w':World=>∀ p q,p<w.heap.size+4→w'.cell? ⟨p,q,none⟩=wc.cell? ⟨p,q,none⟩)) (by kernel_rfl) ?dJ (fun hHeld=>?_)
   case dJ=>exact K0.cell
   refine aA 1 ?_;refine aA 2 ?_;refine iR 0 4 (fun K hK=>?_) fun K hK=>?_
   · go_simp
     (first | (go_at_call 63;refine (fK _).mono ?_;rintro e w1 ⟨rfl,g3⟩;have hl1:=fD (lC (n:=wc.heap.size) g3 (by simp)) hk false;have hl2:=fun o=>fD (lq (n:=wc.heap.size) g3 (by simp) o) hk false;have K1:=(K0.drew).call g3.bw;have mA:=trivial;have hZ:=Held.new w1 Ac 121;have jA:w.heap.size+4≤w1.heap.size:=K1.sz;have hB1:=(hB.drew).call (by simp) g3.bw) | (go_at_call 63;refine (fK _).mono ?_;rintro e w1 ⟨rfl,g3⟩;have hl1:=fD (lC (n:=wc.heap.size+1) g3 (by simp)) hk false;have hl2:=fun o=>fD (lq (n:=wc.heap.size+1) g3 (by simp) o) hk false;have K1:=(K0.drew.alloc _).call g3.bw;have mB:=trivial;have hZ:=(Held.newAt (g:=wc.heap.size) wc.drew Ac 121 rfl).below g3.bw;have jA:w.heap.size+4≤wc.heap.size:=K0.sz;have hB1:=(hB.drew.alloc (by simp) _).call (by simp) g3.bw))
     refine ak hK (K1.cell) fun hHeld=>?_;clear hK K;refine iR 3 4 (fun K hK=>?_) fun K hK=>?_
     · go_simp
       refine ak hK (by first | exact K1.cell | exact (K1.alloc _).cell) fun hHeld=>?_;clear hK K;refine aB 4 fun K hK=>?_;go_simp;refine ak hK (by first | (have _m:=mA;exact (K1.alloc _).cell) | exact (K0.drew.alloc _).cell) fun hHeld=>?_;clear hK K;refine aB 5 fun K hK=>?_
       first | (have _m:=mA;refine aQ hZ (BK (wc.heap.size+1+gI g.kind) (oN (gI g.kind)).length (ji g.kind) (iw g.kind) (iq g.kind) (gV g.kind) (gJ g.kind)) rfl rl_info (kH _ _ _ _ _ _ _) (.tmp 7) (.tmp 14) rfl rfl rfl ?_) | (have _m:=mB;refine aQ hZ (BK ((wc.heap.size+1)+1+gI g.kind) (oN (gI g.kind)).length (ji g.kind) (iw g.kind) (iq g.kind) (gV g.kind) (gJ g.kind)) rfl rl_info (kH _ _ _ _ _ _ _) (.tmp 7) (.tmp 14) rfl rfl rfl ?_)
       refine ak hK (by first | (have _m:=mA;exact ((K1.alloc _).fQ jA _ _).cell) | (have _m:=mB;exact (K1.fQ jA _ _).cell)) fun hHeld=>?_;clear hK K;refine wpAnyH_done (by kernel_rfl) ?_ _;go_wp2;go_meet
       first | (have _m:=mA;exact ⟨_,_,rfl,hZ.whole _ rfl,jA,by first | (have _m:=mA;exact ((hB1.alloc (by simp) _).fQ (by simpa using jA) _ _)) | (have _m:=mB;exact (hB1.fQ (by simpa using jA) _ _))⟩) | (have _m:=mB;exact ⟨_,_,rfl,hZ.whole _ rfl,jA,by first | (have _m:=mA;exact ((hB1.alloc (by simp) _).fQ (by simpa using jA) _ _)) | (have _m:=mB;exact (hB1.fQ (by simpa using jA) _ _))⟩)
     · go_simp
       refine ak hK (by first | (have _m:=mA;exact (K1.alloc _).cell) | exact (K0.drew.alloc _).cell) fun hHeld=>?_;clear hK K;refine aB 3 fun K hK=>?_;go_simp;refine ak hK (by first | exact K1.cell | exact (K1.alloc _).cell) fun hHeld=>?_;clear hK K;refine aB 5 fun K hK=>?_
       first | (have _m:=mA;refine aQ hZ (BK (wc.heap.size+1+gI g.kind) (oN (gI g.kind)).length (ji g.kind) (iw g.kind) (iq g.kind) (gV g.kind) (gJ g.kind)) rfl rl_info (kH _ _ _ _ _ _ _) (.tmp 7) (.tmp 14) rfl rfl rfl ?_) | (have _m:=mB;refine aQ hZ (BK ((wc.heap.size+1)+1+gI g.kind) (oN (gI g.kind)).length (ji g.kind) (iw g.kind) (iq g.kind) (gV g.kind) (gJ g.kind)) rfl rl_info (kH _ _ _ _ _ _ _) (.tmp 7) (.tmp 14) rfl rfl rfl ?_)
       refine ak hK (by first | (have _m:=mA;exact ((K1.alloc _).fQ jA _ _).cell) | (have _m:=mB;exact (K1.fQ jA _ _).cell)) fun hHeld=>?_;clear hK K;refine wpAnyH_done (by kernel_rfl) ?_ _;go_wp2;go_meet
       first | (have _m:=mA;exact ⟨_,_,rfl,hZ.whole _ rfl,jA,by first | (have _m:=mA;exact ((hB1.alloc (by simp) _).fQ (by simpa using jA) _ _)) | (have _m:=mB;exact (hB1.fQ (by simpa using jA) _ _))⟩) | (have _m:=mB;exact ⟨_,_,rfl,hZ.whole _ rfl,jA,by first | (have _m:=mA;exact ((hB1.alloc (by simp) _).fQ (by simpa using jA) _ _)) | (have _m:=mB;exact (hB1.fQ (by simpa using jA) _ _))⟩)
   · go_simp
     refine ak hK (by first | (have _m:=mA;exact (K1.alloc _).cell) | exact (K0.drew.alloc _).cell) fun hHeld=>?_;clear hK K;refine aB 0 fun K hK=>?_;go_simp
     (first | (go_at_call 63;refine (fK _).mono ?_;rintro e w1 ⟨rfl,g3⟩;have hl1:=fD (lC (n:=wc.heap.size) g3 (by simp)) hk false;have hl2:=fun o=>fD (lq (n:=wc.heap.size) g3 (by simp) o) hk false;have K1:=(K0.drew).call g3.bw;have mA:=trivial;have hZ:=Held.new w1 Ac 121;have jA:w.heap.size+4≤w1.heap.size:=K1.sz;have hB1:=(hB.drew).call (by simp) g3.bw) | (go_at_call 63;refine (fK _).mono ?_;rintro e w1 ⟨rfl,g3⟩;have hl1:=fD (lC (n:=wc.heap.size+1) g3 (by simp)) hk false;have hl2:=fun o=>fD (lq (n:=wc.heap.size+1) g3 (by simp) o) hk false;have K1:=(K0.drew.alloc _).call g3.bw;have mB:=trivial;have hZ:=(Held.newAt (g:=wc.heap.size) wc.drew Ac 121 rfl).below g3.bw;have jA:w.heap.size+4≤wc.heap.size:=K0.sz;have hB1:=(hB.drew.alloc (by simp) _).call (by simp) g3.bw))
     refine ak hK (K1.cell) fun hHeld=>?_;clear hK K;refine aB 3 fun K hK=>?_;go_simp;refine ak hK (by first | exact K1.cell | exact (K1.alloc _).cell) fun hHeld=>?_;clear hK K;refine aB 5 fun K hK=>?_
     first | (have _m:=mA;refine aQ hZ (BK (wc.heap.size+1+gI g.kind) (oN (gI g.kind)).length (ji g.kind) (iw g.kind) (iq g.kind) (gV g.kind) (gJ g.kind)) rfl rl_info (kH _ _ _ _ _ _ _) (.tmp 7) (.tmp 14) rfl rfl rfl ?_) | (have _m:=mB;refine aQ hZ (BK ((wc.heap.size+1)+1+gI g.kind) (oN (gI g.kind)).length (ji g.kind) (iw g.kind) (iq g.kind) (gV g.kind) (gJ g.kind)) rfl rl_info (kH _ _ _ _ _ _ _) (.tmp 7) (.tmp 14) rfl rfl rfl ?_)
     refine ak hK (by first | (have _m:=mA;exact ((K1.alloc _).fQ jA _ _).cell) | (have _m:=mB;exact (K1.fQ jA _ _).cell)) fun hHeld=>?_;clear hK K;refine wpAnyH_done (by kernel_rfl) ?_ _;go_wp2;go_meet
     first | (have _m:=mA;exact ⟨_,_,rfl,hZ.whole _ rfl,jA,by first | (have _m:=mA;exact ((hB1.alloc (by simp) _).fQ (by simpa using jA) _ _)) | (have _m:=mB;exact (hB1.fQ (by simpa using jA) _ _))⟩) | (have _m:=mB;exact ⟨_,_,rfl,hZ.whole _ rfl,jA,by first | (have _m:=mA;exact ((hB1.alloc (by simp) _).fQ (by simpa using jA) _ _)) | (have _m:=mB;exact (hB1.fQ (by simpa using jA) _ _))⟩)
  case rest=>
   obtain ⟨D,N,rfl,hR,hD,hB1⟩:=hcut;have hB:=hB1;clear hB1 k0 K0;obtain ⟨v,hv⟩:∃ v,Sk.judge g s e.x=v:=⟨_,rfl⟩;have PV:=fun W (hb:Below w.heap.size w W)=>qG S g s e W hm.turn hm.colour (he.below hb);have f4:=hR.cell (j:=4) rfl;have eg:=qA g.kind;obtain ⟨gj,hgj⟩:∃ x,gV g.kind=x:=⟨_,rfl⟩
   simp only [hgj,hv] at PV f4 eg
   have HJ:=hide PV;have HV:=hide hv;rw [hv] at hvp hvq;clear PV hgj hv
   go_upto_region 2 with (fail)
   go_cut [8] (fun v8 wx=>∃ Dv,v8=ptr Dv∧Held wx Dv (dV v) 78∧wc.heap.size≤Dv∧Below wc.heap.size wc wx)
   case first=>
    go_wp2_with (first | ((with_reducible refine bJ 26 4 ?_);refine dW (hB.get 1 rfl) Tryz.underlying26 aj ?_) | ((with_reducible refine bJ 83 5 ?_);refine dW (hB.get 2 rfl) Tryz.underlying83 bI ?_) | (go_at_fn gj;refine (HJ.out _ hB.bw).mono ?_;rintro e1 w5 ⟨rfl,hb5⟩;have hZ:=Held.new w5 (dV ⟨0,0,0,false⟩) 78) | ((with_reducible refine isS 78 8 19 ?_);refine fU (hZ) (dV v) dS (fZ _) ?_))
    go_meet;exact ⟨_,rfl,hZ.whole (dV v) rfl,hb5.size,below_setCells _ hb5.size _ _ _ _ (hb5.alloc hb5.size _)⟩
   case rest=>
    obtain ⟨Dv,rfl,hVd,hDv,hbv⟩:=hcut;have hR2:=hR.below hbv;have hB2:=hB.call (by simp) hbv;have hDl:=hR.lt;clear f4 eg HJ;have k0:=(hB2.get 1 rfl).cell (j:=0) rfl
    go_upto_region 4 with (fail)
    go_cut [10] (fun v10 wx=>∃ Dn,v10=ptr Dn∧Held wx Dn (aC s) 26∧wc.heap.size≤Dn∧Below wc.heap.size wc wx)
    case first=>
     have hZ:=Held.new wc (aC Sk.zero) 26
     go_wp2_with (first | ((with_reducible refine bJ 26 4 ?_);refine dW (hB2.get 1 rfl) Tryz.underlying26 aj ?_) | ((with_reducible refine isS 26 10 22 ?_);refine fU (hZ) (aC s) aj (aT _) ?_))
     go_meet;exact ⟨_,rfl,hZ.whole (aC s) rfl,Nat.le_refl _,below_setCells _ (Nat.le_refl _) _ _ _ _ ((Below.refl _ _).alloc (Nat.le_refl _) _)⟩
    case rest=>
     obtain ⟨Dn,rfl,hN,hDn,hbn⟩:=hcut;have vS:=hVd.below hbn;have XK:=hR2.below hbn;have hB3:=hB2.call (by simp) hbn;have azM:=hVd.lt;clear k0;have hbw:=hB3.bw
     have hne1:Dv≠Dn:=by omega
     have hne2:w.heap.size≠Dn:=by have:=hB.size (by simp);simp only [List.length_cons,List.length_nil] at this;omega
     have vK:w.heap.size≤Dn:=by have:=hB.size (by simp);simp only [List.length_cons,List.length_nil] at this;omega
     have k0:=(hB3.au rfl).cell (j:=0) rfl;have u1:=vS.cell (j:=1) rfl;have n7:=hN.cell (j:=7) rfl;have n7f:=hN.frozen 7;have n8:=hN.cell (j:=8) rfl;have n8f:=hN.frozen 8
     go_upto_region 5 with (fail)
     go_cut [] (fun wx=>Held wx Dn (aC (cA s (decide (g.kind=Sk.aK∧0<v.gU)) s.s0 s.s1 s.brk)) 26∧(∀ b,b≠Dn→wx.heap[b]? =wc.heap[b]?)∧Below w.heap.size w wx)
     case first=>
      by_cases hg:g.kind=Sk.aK
      · have hg1:=wt hg
        have hfo:decide (g.kind=Sk.aK∧0<v.gU)=decide (0<v.gU):=by simp [hg]
        have Ie:=hide hfo;clear hg hfo;refine wp_region_held_drew (S:=(fun w':World=>w'.cell? ⟨w.heap.size,0,none⟩=wc.cell? ⟨w.heap.size,0,none⟩∧w'.cell? ⟨Dv,1,none⟩=wc.cell? ⟨Dv,1,none⟩)) (by kernel_rfl) ?gW (fun hHeld=>?_)
        case gW=>exact ⟨rfl,rfl⟩
        refine aA 0 ?_;refine aA 1 ?_;refine aA 2 ?_;refine aA 3 ?_;refine aA 4 ?_;refine aA 5 ?_;refine aA 6 ?_;refine aA 7 ?_;refine aA 8 ?_;refine aB 9 fun K hK=>?_;go_simp
        first | (have _m:=s11;have o2:=trivial) | have s9:=trivial
        refine ak hK (⟨(World.cell?_setCell_other _ _ _ _ (by intro h;injection h;omega)).trans hHeld.1,(World.cell?_setCell_other _ _ _ _ (by intro h;injection h;omega)).trans hHeld.2⟩) fun hHeld=>?_;clear hK K;refine aA 10 ?_;refine aB 11 fun K hK=>?_;go_simp
        first | (have _m:=s9;have o1:=trivial) | have s11:=trivial
        refine ak hK (⟨(World.cell?_setCell_other _ _ _ _ (by intro h;injection h;omega)).trans hHeld.1,(World.cell?_setCell_other _ _ _ _ (by intro h;injection h;omega)).trans hHeld.2⟩) fun hHeld=>?_;clear hK K;refine wpAnyH_done (by kernel_rfl) ?_ _;go_wp2;go_meet
        first | (have _m:=o1;rw [Ie.out];exact ⟨(hN.drew.set 7 (.bool false)).set 8 (.bool (decide (0<v.gU))),fun b hb=>(Below.heap_setCell _ ⟨Dn,8,none⟩ _ b hb).trans (Below.heap_setCell _ ⟨Dn,7,none⟩ _ b hb),(hbw.drew.setCell (p:=⟨Dn,7,none⟩) vK _).setCell (p:=⟨Dn,8,none⟩) vK _⟩) | (have _m:=o2;rw [Ie.out];exact ⟨(hN.drew.set 8 (.bool (decide (0<v.gU)))).set 7 (.bool false),fun b hb=>(Below.heap_setCell _ ⟨Dn,7,none⟩ _ b hb).trans (Below.heap_setCell _ ⟨Dn,8,none⟩ _ b hb),(hbw.drew.setCell (p:=⟨Dn,8,none⟩) vK _).setCell (p:=⟨Dn,7,none⟩) vK _⟩)
      · have hg1:=wf hg
        have hfo:decide (g.kind=Sk.aK∧0<v.gU)=false:=by simp [hg]
        have Ie:=hide hfo;clear hg hfo;refine wp_region_held_drew (S:=(fun w':World=>w'.cell? ⟨w.heap.size,0,none⟩=wc.cell? ⟨w.heap.size,0,none⟩∧w'.cell? ⟨Dv,1,none⟩=wc.cell? ⟨Dv,1,none⟩)) (by kernel_rfl) ?mG (fun hHeld=>?_)
        case mG=>exact ⟨rfl,rfl⟩
        refine aA 0 ?_;refine aA 1 ?_;refine aA 2 ?_;refine aA 3 ?_;refine iP 4 ?_;refine iP 5 ?_;refine iP 6 ?_;refine aA 7 ?_;refine aA 8 ?_;refine aB 9 fun K hK=>?_;go_simp
        first | (have _m:=s11;have o2:=trivial) | have s9:=trivial
        refine ak hK (⟨(World.cell?_setCell_other _ _ _ _ (by intro h;injection h;omega)).trans hHeld.1,(World.cell?_setCell_other _ _ _ _ (by intro h;injection h;omega)).trans hHeld.2⟩) fun hHeld=>?_;clear hK K;refine aA 10 ?_;refine aB 11 fun K hK=>?_;go_simp
        first | (have _m:=s9;have o1:=trivial) | have s11:=trivial
        refine ak hK (⟨(World.cell?_setCell_other _ _ _ _ (by intro h;injection h;omega)).trans hHeld.1,(World.cell?_setCell_other _ _ _ _ (by intro h;injection h;omega)).trans hHeld.2⟩) fun hHeld=>?_;clear hK K;refine wpAnyH_done (by kernel_rfl) ?_ _;go_wp2;go_meet
        first | (have _m:=o1;rw [Ie.out];exact ⟨(hN.drew.set 7 (.bool false)).set 8 (.bool (false)),fun b hb=>(Below.heap_setCell _ ⟨Dn,8,none⟩ _ b hb).trans (Below.heap_setCell _ ⟨Dn,7,none⟩ _ b hb),(hbw.drew.setCell (p:=⟨Dn,7,none⟩) vK _).setCell (p:=⟨Dn,8,none⟩) vK _⟩) | (have _m:=o2;rw [Ie.out];exact ⟨(hN.drew.set 8 (.bool (false))).set 7 (.bool false),fun b hb=>(Below.heap_setCell _ ⟨Dn,7,none⟩ _ b hb).trans (Below.heap_setCell _ ⟨Dn,8,none⟩ _ b hb),(hbw.drew.setCell (p:=⟨Dn,8,none⟩) vK _).setCell (p:=⟨Dn,7,none⟩) vK _⟩)
     case rest=>
      obtain ⟨UR,XT,wB⟩:=hcut;obtain ⟨fo,hfo⟩:∃ y,decide (g.kind=Sk.aK∧0<v.gU)=y:=⟨_,rfl⟩;rw [hfo] at UR;have Ie:=hide hfo;clear hfo k0 u1 n7 n7f n8 n8f
      have EI:D≠Dn:=by have h1:=hbv.size;omega
      have EJ:∀ i,i<4→w.heap.size+i≠Dn:=fun i hi=>by have:=hB.size (by simp);simp only [List.length_cons,List.length_nil] at this;have h1:=hbv.size;omega
      have jc:aG w wc [(bK g,23),(aC s,26),(dn e,83),(aC Sk.zero,26)]:=⟨fun i e he=>(XT _ (EJ i (by have:=(List.getElem?_eq_some_iff.1 he).1;simpa using this))).trans (hB3.at_ i e he),wB⟩;have Oe:Held wc Dv (dV v) 78:=(XT Dv hne1).trans vS;have hR5:Held wc D _ 121:=(XT D EI).trans XK
      rcases hm.turn with ht | ht
      · rw [ht]
        have m5:wc.cell? ⟨Dn,1,none⟩=some (Value.int .i64 s.s0):=UR.cell (j:=1) rfl;have m5f:=UR.frozen 1;have u5:=Oe.cell (j:=0) rfl
        have w5:IntKind.i64.wrap (s.s0+v.points)=s.s0+v.points:=by rw [IntKind.wrap_i64];omega
        have x5:IntKind.i64.wrap (0)=0:=by decide
        go_upto_region 6 with (fail)
        go_cut [] (fun wx=>Held wx Dn (aC (cA s fo (s.s0+v.points) s.s1 s.brk)) 26∧(∀ b,b≠Dn→wx.heap[b]? =wc.heap[b]?)∧Below w.heap.size w wx)
        case first=>
         refine wp_region_held_drew (S:=(fun w':World=>w'.cell? ⟨Dv,0,none⟩=wc.cell? ⟨Dv,0,none⟩)) (by kernel_rfl) ?mJ (fun hHeld=>?_)
         case mJ=>exact rfl
         refine aA 0 ?_;refine aA 1 ?_;refine aA 2 ?_;refine aA 4 ?_;refine aA 5 ?_;refine aA 7 ?_;refine aB 3 fun K hK=>?_;go_simp;refine ak hK (hHeld) fun hHeld=>?_;clear hK K;refine aA 6 ?_;refine aA 8 ?_;refine aB 9 fun K hK=>?_;go_simp;refine ak hK ((World.cell?_setCell_other _ _ _ _ (by intro h;injection h;omega)).trans hHeld) fun hHeld=>?_;clear hK K;refine wpAnyH_done (by kernel_rfl) ?_ _;go_wp2;go_meet;exact ⟨(UR.set 1 (.int .i64 (s.s0+v.points))).drew,fun b hb=>Below.heap_setCell _ ⟨Dn,1,none⟩ _ b hb,(wB.setCell (p:=⟨Dn,1,none⟩) vK _).drew⟩
        case rest=>
         obtain ⟨UU,IZ,PO⟩:=hcut;have lS:aG w wc [(bK g,23),(aC s,26),(dn e,83),(aC Sk.zero,26)]:=⟨fun i e he=>(IZ _ (EJ i (by have:=(List.getElem?_eq_some_iff.1 he).1;simpa using this))).trans (jc.at_ i e he),PO⟩;have LW:Held wc Dv (dV v) 78:=(IZ Dv hne1).trans Oe;have KN:Held wc D _ 121:=(IZ D EI).trans hR5;clear m5 m5f u5 w5 x5;have m6:wc.cell? ⟨Dn,2,none⟩=some (Value.int .i64 s.s1):=UU.cell (j:=2) rfl;have m6f:=UU.frozen 2;have u6:=LW.cell (j:=2) rfl
         have w6:IntKind.i64.wrap (s.s1+v.penalty)=s.s1+v.penalty:=by rw [IntKind.wrap_i64];omega
         have x6:IntKind.i64.wrap (1)=1:=by decide
         go_upto_region 7 with (fail)
         go_cut [] (fun wx=>Held wx Dn (aC (cA s fo (s.s0+v.points) (s.s1+v.penalty) s.brk)) 26∧(∀ b,b≠Dn→wx.heap[b]? =wc.heap[b]?)∧Below w.heap.size w wx)
         case first=>
          refine wp_region_held_drew (S:=(fun w':World=>w'.cell? ⟨Dv,2,none⟩=wc.cell? ⟨Dv,2,none⟩)) (by kernel_rfl) ?uw (fun hHeld=>?_)
          case uw=>exact rfl
          refine aA 0 ?_;refine aA 1 ?_;refine aA 2 ?_;refine aA 3 ?_;refine aA 5 ?_;refine aA 6 ?_;refine aA 8 ?_;refine aB 4 fun K hK=>?_;go_simp;refine ak hK (hHeld) fun hHeld=>?_;clear hK K;refine aA 7 ?_;refine aA 9 ?_;refine aB 10 fun K hK=>?_;go_simp;refine ak hK ((World.cell?_setCell_other _ _ _ _ (by intro h;injection h;omega)).trans hHeld) fun hHeld=>?_;clear hK K;refine wpAnyH_done (by kernel_rfl) ?_ _;go_wp2;go_meet;exact ⟨(UU.set 2 (.int .i64 (s.s1+v.penalty))).drew,fun b hb=>Below.heap_setCell _ ⟨Dn,2,none⟩ _ b hb,(PO.setCell (p:=⟨Dn,2,none⟩) vK _).drew⟩
         case rest=>
          obtain ⟨UW,I4,PS⟩:=hcut;have Pg:aG w wc [(bK g,23),(aC s,26),(dn e,83),(aC Sk.zero,26)]:=⟨fun i e he=>(I4 _ (EJ i (by have:=(List.getElem?_eq_some_iff.1 he).1;simpa using this))).trans (lS.at_ i e he),PS⟩;have XM:Held wc Dv (dV v) 78:=(I4 Dv hne1).trans LW;have KO:Held wc D _ 121:=(I4 D EI).trans KN;clear m6 m6f u6 w6 x6;have m8:wc.cell? ⟨Dn,3,none⟩=some (Value.int .i64 s.brk):=UW.cell (j:=3) rfl;have m8f:=UW.frozen 3;have u8:=XM.cell (j:=0) rfl
          have u8w:IntKind.i64.wrap (s.brk+v.points)=s.brk+v.points:=by rw [IntKind.wrap_i64];omega
          go_upto_region 8 with (fail)
          go_cut [] (fun wx=>Held wx Dn (aC (cA s fo (s.s0+v.points) (s.s1+v.penalty) (s.brk+v.points))) 26∧(∀ b,b≠Dn→wx.heap[b]? =wc.heap[b]?)∧Below w.heap.size w wx)
          case first=>
           go_wp2;go_meet;exact ⟨UW.set 3 (.int .i64 (s.brk+v.points)),fun b hb=>Below.heap_setCell _ ⟨Dn,3,none⟩ _ b hb,PS.setCell (p:=⟨Dn,3,none⟩) vK _⟩
          case rest=>
           obtain ⟨LQ,I5,I8⟩:=hcut;have FB:aG w wc [(bK g,23),(aC s,26),(dn e,83),(aC Sk.zero,26)]:=⟨fun i e he=>(I5 _ (EJ i (by have:=(List.getElem?_eq_some_iff.1 he).1;simpa using this))).trans (Pg.at_ i e he),I8⟩;have LX:Held wc Dv (dV v) 78:=(I5 Dv hne1).trans XM;have Pm:Held wc D _ 121:=(I5 D EI).trans KO;clear m8 m8f u8 u8w UW UU UR XM LW Oe KO KN hR5 Pg lS jc
           have hX:Sk.jk g s v=(cA s fo (s.s0+v.points) (s.s1+v.penalty) (s.brk+v.points)):=by unfold Sk.jk cA;rw [Ie.out];simp [ht]
           obtain ⟨X,eX⟩:∃ x,(cA s fo (s.s0+v.points) (s.s1+v.penalty) (s.brk+v.points))=x:=⟨_,rfl⟩;rw [eX] at hX LQ
           have htX:X.turn=0∨X.turn=1:=by rw [← hX];exact hm.turn
           have hmid:=DZ (g:=g) (v:=v) hm;rw [hX] at hmid;have HX:=hide hX;clear hX eX;have u9:=LX.cell (j:=3) rfl
           cases hy:v.stays
           all_goals
            rw [hy] at u9
           · have X3:wQ (Sk.pass X):=by simpa [hy] using hmid
             have HY:=hide hy;clear hmid hy
             go_upto_region 10 with (fail)
             go_cut [] (fun wx=>Held wx Dn (aC (Sk.pass X)) 26∧(∀ b,b≠Dn→b<wc.heap.size→wx.heap[b]? =wc.heap[b]?)∧Below w.heap.size w wx)
             case first=>
              go_wp2_with (first | ((with_reducible refine bJ 26 10 ?_);refine dW (LQ) Tryz.underlying26 aj ?_) | (go_at_call 140;refine (nN X htX _).mono ?_;rintro e1 w6 ⟨rfl,hb6⟩;have LU:=LQ.below hb6) | ((with_reducible refine isS 26 10 62 ?_);refine fU (LU) (aC (Sk.pass X)) aj (aT _) ?_))
              go_meet;exact ⟨LU.whole (aC (Sk.pass X)) rfl,fun b hb hl=>(wV hb _ _ _).trans (hb6.block b hl),below_setCells _ vK _ _ _ _ (I8.trans (hb6.mono I8.size))⟩
             case rest=>
              obtain ⟨LU,I7,XW⟩:=hcut;have kC:aG w wc [(bK g,23),(aC s,26),(dn e,83),(aC Sk.zero,26)]:=⟨fun i e he=>(I7 _ (EJ i (by have:=(List.getElem?_eq_some_iff.1 he).1;simpa using this)) (FB.lt (List.getElem?_eq_some_iff.1 he).1)).trans (FB.at_ i e he),XW⟩;have XO:Held wc Dv (dV v) 78:=(I7 Dv hne1 LX.lt).trans LX;have Pn:Held wc D _ 121:=(I7 D EI Pm.lt).trans Pm;clear FB LX Pm LQ u9;have f5:=Pn.cell (j:=5) rfl;have eg:=nC g.kind;have HA:=hide fun W (hb:Below w.heap.size w W)=>nH S g (Sk.pass X) e v W X3 (he.below hb);obtain ⟨ga,hga⟩:∃ x,gJ g.kind=x:=⟨_,rfl⟩;rw [hga] at f5 eg HA;clear hga
              go_wp2_with (first | ((with_reducible refine bJ 26 10 ?_);refine dW (LU) Tryz.underlying26 aj ?_) | ((with_reducible refine bJ 23 3 ?_);refine dW (kC.get 0 rfl) Tryz.underlying23 dQ ?_) | ((with_reducible refine bJ 83 5 ?_);refine dW (kC.get 2 rfl) Tryz.underlying83 bI ?_) | ((with_reducible refine bJ 78 8 ?_);refine dW (XO) Tryz.underlying78 dS ?_) | (go_at_fn ga;refine (HA.out _ kC.bw).mono ?_;rintro e1 w6 ⟨rfl,hb6⟩;have hB:=kC.call (by simp) hb6) | ((with_reducible refine isS 26 6 69 ?_);refine fU (hB.get 3 rfl) (aC (Sk.after g (Sk.pass X) e.x v)) aj (aT _) ?_))
              have hZ:=hB.put 3 rfl (aC (Sk.after g (Sk.pass X) e.x v)) rfl;refine bodyPost_ret (aI (p:=6) (hZ.get 3 rfl) Tryz.underlying26 rfl aj rfl _ rfl) rfl ⟨?_,hZ.bw⟩;have h1:=HV.out;have h2:=HX.out;have h3:=HY.out
              unfold Sk.sW
              rw [h1,h3,h2]
              rfl
           · have X3:wQ X:=by simpa [hy] using hmid
             have HY:=hide hy;clear hmid hy;have LU:=LQ;have kC:=FB;have XO:=LX;have Pn:=Pm;clear LQ FB LX Pm;have f5:=Pn.cell (j:=5) rfl;have eg:=nC g.kind;have HA:=hide fun W (hb:Below w.heap.size w W)=>nH S g X e v W X3 (he.below hb);obtain ⟨ga,hga⟩:∃ x,gJ g.kind=x:=⟨_,rfl⟩;rw [hga] at f5 eg HA;clear hga
             go_wp2_with (first | ((with_reducible refine bJ 26 10 ?_);refine dW (LU) Tryz.underlying26 aj ?_) | ((with_reducible refine bJ 23 3 ?_);refine dW (kC.get 0 rfl) Tryz.underlying23 dQ ?_) | ((with_reducible refine bJ 83 5 ?_);refine dW (kC.get 2 rfl) Tryz.underlying83 bI ?_) | ((with_reducible refine bJ 78 8 ?_);refine dW (XO) Tryz.underlying78 dS ?_) | (go_at_fn ga;refine (HA.out _ kC.bw).mono ?_;rintro e1 w6 ⟨rfl,hb6⟩;have hB:=kC.call (by simp) hb6) | ((with_reducible refine isS 26 6 69 ?_);refine fU (hB.get 3 rfl) (aC (Sk.after g X e.x v)) aj (aT _) ?_))
             have hZ:=hB.put 3 rfl (aC (Sk.after g X e.x v)) rfl;refine bodyPost_ret (aI (p:=6) (hZ.get 3 rfl) Tryz.underlying26 rfl aj rfl _ rfl) rfl ⟨?_,hZ.bw⟩;have h1:=HV.out;have h2:=HX.out;have h3:=HY.out
             unfold Sk.sW
             rw [h1,h3,h2]
             rfl
      · rw [ht]
        have m5:wc.cell? ⟨Dn,2,none⟩=some (Value.int .i64 s.s1):=UR.cell (j:=2) rfl;have m5f:=UR.frozen 2;have u5:=Oe.cell (j:=0) rfl
        have w5:IntKind.i64.wrap (s.s1+v.points)=s.s1+v.points:=by rw [IntKind.wrap_i64];omega
        have x5:IntKind.i64.wrap (1)=1:=by decide
        go_upto_region 6 with (fail)
        go_cut [] (fun wx=>Held wx Dn (aC (cA s fo s.s0 (s.s1+v.points) s.brk)) 26∧(∀ b,b≠Dn→wx.heap[b]? =wc.heap[b]?)∧Below w.heap.size w wx)
        case first=>
         refine wp_region_held_drew (S:=(fun w':World=>w'.cell? ⟨Dv,0,none⟩=wc.cell? ⟨Dv,0,none⟩)) (by kernel_rfl) ?pJ (fun hHeld=>?_)
         case pJ=>exact rfl
         refine aA 0 ?_;refine aA 1 ?_;refine aA 2 ?_;refine aA 4 ?_;refine aA 5 ?_;refine aA 7 ?_;refine aB 3 fun K hK=>?_;go_simp;refine ak hK (hHeld) fun hHeld=>?_;clear hK K;refine aA 6 ?_;refine aA 8 ?_;refine aB 9 fun K hK=>?_;go_simp;refine ak hK ((World.cell?_setCell_other _ _ _ _ (by intro h;injection h;omega)).trans hHeld) fun hHeld=>?_;clear hK K;refine wpAnyH_done (by kernel_rfl) ?_ _;go_wp2;go_meet;exact ⟨(UR.set 2 (.int .i64 (s.s1+v.points))).drew,fun b hb=>Below.heap_setCell _ ⟨Dn,2,none⟩ _ b hb,(wB.setCell (p:=⟨Dn,2,none⟩) vK _).drew⟩
        case rest=>
         obtain ⟨UU,IZ,PO⟩:=hcut;have lS:aG w wc [(bK g,23),(aC s,26),(dn e,83),(aC Sk.zero,26)]:=⟨fun i e he=>(IZ _ (EJ i (by have:=(List.getElem?_eq_some_iff.1 he).1;simpa using this))).trans (jc.at_ i e he),PO⟩;have LW:Held wc Dv (dV v) 78:=(IZ Dv hne1).trans Oe;have KN:Held wc D _ 121:=(IZ D EI).trans hR5;clear m5 m5f u5 w5 x5;have m6:wc.cell? ⟨Dn,1,none⟩=some (Value.int .i64 s.s0):=UU.cell (j:=1) rfl;have m6f:=UU.frozen 1;have u6:=LW.cell (j:=2) rfl
         have w6:IntKind.i64.wrap (s.s0+v.penalty)=s.s0+v.penalty:=by rw [IntKind.wrap_i64];omega
         have x6:IntKind.i64.wrap (0)=0:=by decide
         go_upto_region 7 with (fail)
         go_cut [] (fun wx=>Held wx Dn (aC (cA s fo (s.s0+v.penalty) (s.s1+v.points) s.brk)) 26∧(∀ b,b≠Dn→wx.heap[b]? =wc.heap[b]?)∧Below w.heap.size w wx)
         case first=>
          refine wp_region_held_drew (S:=(fun w':World=>w'.cell? ⟨Dv,2,none⟩=wc.cell? ⟨Dv,2,none⟩)) (by kernel_rfl) ?pK (fun hHeld=>?_)
          case pK=>exact rfl
          refine aA 0 ?_;refine aA 1 ?_;refine aA 2 ?_;refine aA 3 ?_;refine aA 5 ?_;refine aA 6 ?_;refine aA 8 ?_;refine aB 4 fun K hK=>?_;go_simp;refine ak hK (hHeld) fun hHeld=>?_;clear hK K;refine aA 7 ?_;refine aA 9 ?_;refine aB 10 fun K hK=>?_;go_simp;refine ak hK ((World.cell?_setCell_other _ _ _ _ (by intro h;injection h;omega)).trans hHeld) fun hHeld=>?_;clear hK K;refine wpAnyH_done (by kernel_rfl) ?_ _;go_wp2;go_meet;exact ⟨(UU.set 1 (.int .i64 (s.s0+v.penalty))).drew,fun b hb=>Below.heap_setCell _ ⟨Dn,1,none⟩ _ b hb,(PO.setCell (p:=⟨Dn,1,none⟩) vK _).drew⟩
         case rest=>
          obtain ⟨UW,I4,PS⟩:=hcut;have Pg:aG w wc [(bK g,23),(aC s,26),(dn e,83),(aC Sk.zero,26)]:=⟨fun i e he=>(I4 _ (EJ i (by have:=(List.getElem?_eq_some_iff.1 he).1;simpa using this))).trans (lS.at_ i e he),PS⟩;have XM:Held wc Dv (dV v) 78:=(I4 Dv hne1).trans LW;have KO:Held wc D _ 121:=(I4 D EI).trans KN;clear m6 m6f u6 w6 x6;have m8:wc.cell? ⟨Dn,3,none⟩=some (Value.int .i64 s.brk):=UW.cell (j:=3) rfl;have m8f:=UW.frozen 3;have u8:=XM.cell (j:=0) rfl
          have u8w:IntKind.i64.wrap (s.brk+v.points)=s.brk+v.points:=by rw [IntKind.wrap_i64];omega
          go_upto_region 8 with (fail)
          go_cut [] (fun wx=>Held wx Dn (aC (cA s fo (s.s0+v.penalty) (s.s1+v.points) (s.brk+v.points))) 26∧(∀ b,b≠Dn→wx.heap[b]? =wc.heap[b]?)∧Below w.heap.size w wx)
          case first=>
           go_wp2;go_meet;exact ⟨UW.set 3 (.int .i64 (s.brk+v.points)),fun b hb=>Below.heap_setCell _ ⟨Dn,3,none⟩ _ b hb,PS.setCell (p:=⟨Dn,3,none⟩) vK _⟩
          case rest=>
           obtain ⟨LQ,I5,I8⟩:=hcut;have FB:aG w wc [(bK g,23),(aC s,26),(dn e,83),(aC Sk.zero,26)]:=⟨fun i e he=>(I5 _ (EJ i (by have:=(List.getElem?_eq_some_iff.1 he).1;simpa using this))).trans (Pg.at_ i e he),I8⟩;have LX:Held wc Dv (dV v) 78:=(I5 Dv hne1).trans XM;have Pm:Held wc D _ 121:=(I5 D EI).trans KO;clear m8 m8f u8 u8w UW UU UR XM LW Oe KO KN hR5 Pg lS jc
           have hX:Sk.jk g s v=(cA s fo (s.s0+v.penalty) (s.s1+v.points) (s.brk+v.points)):=by unfold Sk.jk cA;rw [Ie.out];simp [ht]
           obtain ⟨X,eX⟩:∃ x,(cA s fo (s.s0+v.penalty) (s.s1+v.points) (s.brk+v.points))=x:=⟨_,rfl⟩;rw [eX] at hX LQ
           have htX:X.turn=0∨X.turn=1:=by rw [← hX];exact hm.turn
           have hmid:=DZ (g:=g) (v:=v) hm;rw [hX] at hmid;have HX:=hide hX;clear hX eX;have u9:=LX.cell (j:=3) rfl
           cases hy:v.stays
           all_goals
            rw [hy] at u9
           · have X3:wQ (Sk.pass X):=by simpa [hy] using hmid
             have HY:=hide hy;clear hmid hy
             go_upto_region 10 with (fail)
             go_cut [] (fun wx=>Held wx Dn (aC (Sk.pass X)) 26∧(∀ b,b≠Dn→b<wc.heap.size→wx.heap[b]? =wc.heap[b]?)∧Below w.heap.size w wx)
             case first=>
              go_wp2_with (first | ((with_reducible refine bJ 26 10 ?_);refine dW (LQ) Tryz.underlying26 aj ?_) | (go_at_call 140;refine (nN X htX _).mono ?_;rintro e1 w6 ⟨rfl,hb6⟩;have LU:=LQ.below hb6) | ((with_reducible refine isS 26 10 62 ?_);refine fU (LU) (aC (Sk.pass X)) aj (aT _) ?_))
              go_meet;exact ⟨LU.whole (aC (Sk.pass X)) rfl,fun b hb hl=>(wV hb _ _ _).trans (hb6.block b hl),below_setCells _ vK _ _ _ _ (I8.trans (hb6.mono I8.size))⟩
             case rest=>
              obtain ⟨LU,I7,XW⟩:=hcut;have kC:aG w wc [(bK g,23),(aC s,26),(dn e,83),(aC Sk.zero,26)]:=⟨fun i e he=>(I7 _ (EJ i (by have:=(List.getElem?_eq_some_iff.1 he).1;simpa using this)) (FB.lt (List.getElem?_eq_some_iff.1 he).1)).trans (FB.at_ i e he),XW⟩;have XO:Held wc Dv (dV v) 78:=(I7 Dv hne1 LX.lt).trans LX;have Pn:Held wc D _ 121:=(I7 D EI Pm.lt).trans Pm;clear FB LX Pm LQ u9;have f5:=Pn.cell (j:=5) rfl;have eg:=nC g.kind;have HA:=hide fun W (hb:Below w.heap.size w W)=>nH S g (Sk.pass X) e v W X3 (he.below hb);obtain ⟨ga,hga⟩:∃ x,gJ g.kind=x:=⟨_,rfl⟩;rw [hga] at f5 eg HA;clear hga
              go_wp2_with (first | ((with_reducible refine bJ 26 10 ?_);refine dW (LU) Tryz.underlying26 aj ?_) | ((with_reducible refine bJ 23 3 ?_);refine dW (kC.get 0 rfl) Tryz.underlying23 dQ ?_) | ((with_reducible refine bJ 83 5 ?_);refine dW (kC.get 2 rfl) Tryz.underlying83 bI ?_) | ((with_reducible refine bJ 78 8 ?_);refine dW (XO) Tryz.underlying78 dS ?_) | (go_at_fn ga;refine (HA.out _ kC.bw).mono ?_;rintro e1 w6 ⟨rfl,hb6⟩;have hB:=kC.call (by simp) hb6) | ((with_reducible refine isS 26 6 69 ?_);refine fU (hB.get 3 rfl) (aC (Sk.after g (Sk.pass X) e.x v)) aj (aT _) ?_))
              have hZ:=hB.put 3 rfl (aC (Sk.after g (Sk.pass X) e.x v)) rfl;refine bodyPost_ret (aI (p:=6) (hZ.get 3 rfl) Tryz.underlying26 rfl aj rfl _ rfl) rfl ⟨?_,hZ.bw⟩;have h1:=HV.out;have h2:=HX.out;have h3:=HY.out
              unfold Sk.sW
              rw [h1,h3,h2]
              rfl
           · have X3:wQ X:=by simpa [hy] using hmid
             have HY:=hide hy;clear hmid hy;have LU:=LQ;have kC:=FB;have XO:=LX;have Pn:=Pm;clear LQ FB LX Pm;have f5:=Pn.cell (j:=5) rfl;have eg:=nC g.kind;have HA:=hide fun W (hb:Below w.heap.size w W)=>nH S g X e v W X3 (he.below hb);obtain ⟨ga,hga⟩:∃ x,gJ g.kind=x:=⟨_,rfl⟩;rw [hga] at f5 eg HA;clear hga
             go_wp2_with (first | ((with_reducible refine bJ 26 10 ?_);refine dW (LU) Tryz.underlying26 aj ?_) | ((with_reducible refine bJ 23 3 ?_);refine dW (kC.get 0 rfl) Tryz.underlying23 dQ ?_) | ((with_reducible refine bJ 83 5 ?_);refine dW (kC.get 2 rfl) Tryz.underlying83 bI ?_) | ((with_reducible refine bJ 78 8 ?_);refine dW (XO) Tryz.underlying78 dS ?_) | (go_at_fn ga;refine (HA.out _ kC.bw).mono ?_;rintro e1 w6 ⟨rfl,hb6⟩;have hB:=kC.call (by simp) hb6) | ((with_reducible refine isS 26 6 69 ?_);refine fU (hB.get 3 rfl) (aC (Sk.after g X e.x v)) aj (aT _) ?_))
             have hZ:=hB.put 3 rfl (aC (Sk.after g X e.x v)) rfl;refine bodyPost_ret (aI (p:=6) (hZ.get 3 rfl) Tryz.underlying26 rfl aj rfl _ rfl) rfl ⟨?_,hZ.bw⟩;have h1:=HV.out;have h2:=HX.out;have h3:=HY.out
             unfold Sk.sW
             rw [h1,h3,h2]
             rfl
def nS (s:Sk.State) (fr fo:Bool) (wi:Int):Sk.State:=⟨s.turn,s.s0,s.s1,s.brk,s.phase,s.aY,s.colour,fr,fo,s.aO,s.t0,s.t1,wi⟩
theorem mX (g:Sk.Game) (s:Sk.State) (e:Sk.Entry):Sk.next g s e=if e.kind=Sk.cO then Sk.sW g s e else if e.kind=Sk.gu then Sk.pass (nS s false false s.ay) else if e.kind=Sk.iI then nS s true false s.ay else if e.kind=Sk.fJ then nS s false false (1 - s.turn) else nS s false false s.ay:=rfl
theorem J7 (S:Nat→Prop) (g:Sk.Game) (s:Sk.State) (e:En) (w:World) (ht:s.turn=0∨s.turn=1) (hsh:e.x.kind=Sk.cO→∀ W,Below w.heap.size w W→Calls Tryz.prog 139 #[lX g,jE s,rU e] W fun e_ w'=>e_= .returned (jE (Sk.sW g s e.x))∧Below W.heap.size W w'):Calls Tryz.prog 81 #[lX g,jE s,rU e] w fun e_ w'=>e_= .returned (jE (Sk.next g s e.x))∧Below w.heap.size w w':=by
 go_enter Tryz.func81,Tryz.ntmps81
 go_upto_region 0 with (fail)
 go_cut [3,4,5,6] (fun v3 v4 v5 v6 wx=>v3=ptr w.heap.size∧v4=ptr (w.heap.size+1)∧v5=ptr (w.heap.size+2)∧v6=ptr (w.heap.size+3)∧aG w wx [(bK g,23),(aC s,26),(dn e,83),(aC Sk.zero,26)])
 case first=>
  go_wp2;go_meet;exact ⟨rfl,rfl,rfl,rfl,(((((aG.nil w).new (by simp) (bK g) _).new (by simp) (aC s) _).new (by simp) (dn e) _).new (by simp) (aC Sk.zero) _)⟩
 case rest=>
  obtain ⟨rfl,rfl,rfl,rfl,hB⟩:=hcut;have x0:=(hB.get 2 rfl).cell (j:=0) rfl;have k0:=(hB.get 1 rfl).cell (j:=0) rfl;have Yl:=(hB.get 1 rfl).frozen 0;have k7:=(hB.get 1 rfl).cell (j:=7) rfl;have WQ:=(hB.get 1 rfl).frozen 7;have k8:=(hB.get 1 rfl).cell (j:=8) rfl;have kf8:=(hB.get 1 rfl).frozen 8;have k12:=(hB.get 1 rfl).cell (j:=12) rfl;have afN:=(hB.get 1 rfl).frozen 12
  by_cases h1:e.x.kind=Sk.cO
  · have h11:=wt h1
    have HSH:=hide (hsh h1);have HM:=hide (show Sk.next g s e.x=(Sk.sW g s e.x) by rw [mX];rw [if_pos h1]);clear h1 hsh
    go_wp2_with (first | ((with_reducible refine bJ 23 3 ?_);refine dW (hB.au rfl) Tryz.underlying23 dQ ?_) | ((with_reducible refine bJ 26 4 ?_);refine dW (hB.get 1 rfl) Tryz.underlying26 aj ?_) | ((with_reducible refine bJ 83 5 ?_);refine dW (hB.get 2 rfl) Tryz.underlying83 bI ?_) | (go_at_call 139;refine (HSH.out _ hB.bw).mono ?_;rintro e1 w1 ⟨rfl,hb1⟩;have hB:=hB.call (by simp) hb1) | ((with_reducible refine isS 26 6 13 ?_);refine fU (hB.get 3 rfl) (aC (Sk.sW g s e.x)) aj (aT _) ?_))
    have hZ:=hB.put 3 rfl (aC (Sk.sW g s e.x)) rfl;refine bodyPost_ret (aI (p:=6) (hZ.get 3 rfl) Tryz.underlying26 rfl aj rfl _ rfl) rfl ⟨?_,hZ.bw⟩;rw [HM.out];rfl
  · have h11:=wf h1
    clear hsh
    by_cases h2:e.x.kind=Sk.gu
    · have h21:=wt h2
      have HM:=hide (show Sk.next g s e.x=(Sk.pass (nS s false false s.ay)) by rw [mX];rw [if_neg h1,if_pos h2]);have hE1:aG w (wc.setCell ⟨w.heap.size+1,8,none⟩ (.bool false)) [(bK g,23),(aC (nS s s.free false s.ay),26),(dn e,83),(aC Sk.zero,26)]:=hB.set 1 rfl 8 _;have hE2:aG w ((wc.setCell ⟨w.heap.size+1,8,none⟩ (.bool false)).setCell ⟨w.heap.size+1,7,none⟩ (.bool false)) [(bK g,23),(aC (nS s false false s.ay),26),(dn e,83),(aC Sk.zero,26)]:=hE1.set 1 rfl 7 _;clear h1 h2
      go_wp2_with (first | ((with_reducible refine bJ 26 4 ?_);refine dW (hE2.get 1 rfl) Tryz.underlying26 aj ?_) | (go_at_call 140;refine (nN (nS s false false s.ay) ht _).mono ?_;rintro e1 w6 ⟨rfl,hb6⟩;have hE:=hE2.call (by simp) hb6) | ((with_reducible refine isS 26 6 21 ?_);refine fU (hE.get 3 rfl) (aC (Sk.pass (nS s false false s.ay))) aj (aT _) ?_))
      have hZ:=hE.put 3 rfl (aC (Sk.pass (nS s false false s.ay))) rfl;refine bodyPost_ret (aI (p:=6) (hZ.get 3 rfl) Tryz.underlying26 rfl aj rfl _ rfl) rfl ⟨?_,hZ.bw⟩;rw [HM.out];rfl
    · have h21:=wf h2
      by_cases h3:e.x.kind=Sk.iI
      · have h31:=wt h3
        have HM:=hide (show Sk.next g s e.x=(nS s true false s.ay) by rw [mX];rw [if_neg h1,if_neg h2,if_pos h3]);have hE1:aG w (wc.setCell ⟨w.heap.size+1,8,none⟩ (.bool false)) [(bK g,23),(aC (nS s s.free false s.ay),26),(dn e,83),(aC Sk.zero,26)]:=hB.set 1 rfl 8 _;have hE2:aG w ((wc.setCell ⟨w.heap.size+1,8,none⟩ (.bool false)).setCell ⟨w.heap.size+1,7,none⟩ (.bool false)) [(bK g,23),(aC (nS s false false s.ay),26),(dn e,83),(aC Sk.zero,26)]:=hE1.set 1 rfl 7 _;have hE:aG w (((wc.setCell ⟨w.heap.size+1,8,none⟩ (.bool false)).setCell ⟨w.heap.size+1,7,none⟩ (.bool false)).setCell ⟨w.heap.size+1,7,none⟩ (.bool true)) [(bK g,23),(aC (nS s true false s.ay),26),(dn e,83),(aC Sk.zero,26)]:=hE2.set 1 rfl 7 _;clear h1 h2 h3
        go_wp2_with (first | ((with_reducible refine bJ 26 4 ?_);refine dW (hE.get 1 rfl) Tryz.underlying26 aj ?_) | ((with_reducible refine isS 26 6 25 ?_);refine fU (hE.get 3 rfl) (aC (nS s true false s.ay)) aj (aT _) ?_))
        have hZ:=hE.put 3 rfl (aC (nS s true false s.ay)) rfl;refine bodyPost_ret (aI (p:=6) (hZ.get 3 rfl) Tryz.underlying26 rfl aj rfl _ rfl) rfl ⟨?_,hZ.bw⟩;rw [HM.out];rfl
      · have h31:=wf h3
        by_cases h4:e.x.kind=Sk.fJ
        · have h41:=wt h4
          rcases ht with ht | ht
          · have ht':=ht
            rw [ht] at k0;clear ht;have HM:=hide (show Sk.next g s e.x=(nS s false false 1) by rw [mX];rw [if_neg h1,if_neg h2,if_neg h3,if_pos h4,ht'];rfl);have hE1:aG w (wc.setCell ⟨w.heap.size+1,8,none⟩ (.bool false)) [(bK g,23),(aC (nS s s.free false s.ay),26),(dn e,83),(aC Sk.zero,26)]:=hB.set 1 rfl 8 _;have hE2:aG w ((wc.setCell ⟨w.heap.size+1,8,none⟩ (.bool false)).setCell ⟨w.heap.size+1,7,none⟩ (.bool false)) [(bK g,23),(aC (nS s false false s.ay),26),(dn e,83),(aC Sk.zero,26)]:=hE1.set 1 rfl 7 _;have hE:aG w (((wc.setCell ⟨w.heap.size+1,8,none⟩ (.bool false)).setCell ⟨w.heap.size+1,7,none⟩ (.bool false)).setCell ⟨w.heap.size+1,12,none⟩ (.int .i64 1)) [(bK g,23),(aC (nS s false false 1),26),(dn e,83),(aC Sk.zero,26)]:=hE2.set 1 rfl 12 _;clear h1 h2 h3 h4
            go_wp2_with (first | ((with_reducible refine bJ 26 4 ?_);refine dW (hE.get 1 rfl) Tryz.underlying26 aj ?_) | ((with_reducible refine isS 26 6 32 ?_);refine fU (hE.get 3 rfl) (aC (nS s false false 1)) aj (aT _) ?_))
            have hZ:=hE.put 3 rfl (aC (nS s false false 1)) rfl;refine bodyPost_ret (aI (p:=6) (hZ.get 3 rfl) Tryz.underlying26 rfl aj rfl _ rfl) rfl ⟨?_,hZ.bw⟩;rw [HM.out];rfl
          · have ht':=ht
            rw [ht] at k0;clear ht;have HM:=hide (show Sk.next g s e.x=(nS s false false 0) by rw [mX];rw [if_neg h1,if_neg h2,if_neg h3,if_pos h4,ht'];rfl);have hE1:aG w (wc.setCell ⟨w.heap.size+1,8,none⟩ (.bool false)) [(bK g,23),(aC (nS s s.free false s.ay),26),(dn e,83),(aC Sk.zero,26)]:=hB.set 1 rfl 8 _;have hE2:aG w ((wc.setCell ⟨w.heap.size+1,8,none⟩ (.bool false)).setCell ⟨w.heap.size+1,7,none⟩ (.bool false)) [(bK g,23),(aC (nS s false false s.ay),26),(dn e,83),(aC Sk.zero,26)]:=hE1.set 1 rfl 7 _;have hE:aG w (((wc.setCell ⟨w.heap.size+1,8,none⟩ (.bool false)).setCell ⟨w.heap.size+1,7,none⟩ (.bool false)).setCell ⟨w.heap.size+1,12,none⟩ (.int .i64 0)) [(bK g,23),(aC (nS s false false 0),26),(dn e,83),(aC Sk.zero,26)]:=hE2.set 1 rfl 12 _;clear h1 h2 h3 h4
            go_wp2_with (first | ((with_reducible refine bJ 26 4 ?_);refine dW (hE.get 1 rfl) Tryz.underlying26 aj ?_) | ((with_reducible refine isS 26 6 32 ?_);refine fU (hE.get 3 rfl) (aC (nS s false false 0)) aj (aT _) ?_))
            have hZ:=hE.put 3 rfl (aC (nS s false false 0)) rfl;refine bodyPost_ret (aI (p:=6) (hZ.get 3 rfl) Tryz.underlying26 rfl aj rfl _ rfl) rfl ⟨?_,hZ.bw⟩;rw [HM.out];rfl
        · have h41:=wf h4
          have HM:=hide (show Sk.next g s e.x=(nS s false false s.ay) by rw [mX];rw [if_neg h1,if_neg h2,if_neg h3,if_neg h4]);have hE1:aG w (wc.setCell ⟨w.heap.size+1,8,none⟩ (.bool false)) [(bK g,23),(aC (nS s s.free false s.ay),26),(dn e,83),(aC Sk.zero,26)]:=hB.set 1 rfl 8 _;have hE2:aG w ((wc.setCell ⟨w.heap.size+1,8,none⟩ (.bool false)).setCell ⟨w.heap.size+1,7,none⟩ (.bool false)) [(bK g,23),(aC (nS s false false s.ay),26),(dn e,83),(aC Sk.zero,26)]:=hE1.set 1 rfl 7 _;clear h1 h2 h3 h4
          go_wp2_with (first | ((with_reducible refine bJ 26 4 ?_);refine dW (hE2.get 1 rfl) Tryz.underlying26 aj ?_) | ((with_reducible refine isS 26 6 33 ?_);refine fU (hE2.get 3 rfl) (aC (nS s false false s.ay)) aj (aT _) ?_))
          have hZ:=hE2.put 3 rfl (aC (nS s false false s.ay)) rfl;refine bodyPost_ret (aI (p:=6) (hZ.get 3 rfl) Tryz.underlying26 rfl aj rfl _ rfl) rfl ⟨?_,hZ.bw⟩;rw [HM.out];rfl
theorem akJ (s:Sk.State) (Ds:Nat) (w:World) (hS:Held w Ds (aC s) 26):oH 134 #[ptr Ds] (decide (s.ay<0)) w:=by
 refine ⟨enters_of Tryz.func134 (by kernel_rfl) rfl,fun W hb=>?_⟩;have h1:=hS.below hb;have k12:=h1.cell (j:=12) rfl;have afN:=h1.frozen 12
 go_enter Tryz.func134,Tryz.ntmps134
 go_wp2;go_ret;exact ⟨rfl,hb⟩
def pG (s:Sk.State) (e:Sk.Entry):Bool:=s.aN || decide (e.kind≠Sk.gu∧e.kind≠Sk.iI)
theorem akQ (s:Sk.State) (e:En) (Ds De:Nat) (w:World) (hS:Held w Ds (aC s) 26) (hE:Held w De (dn e) 83):oH 135 #[ptr Ds,ptr De] (pG s e.x) w:=by
 refine ⟨enters_of Tryz.func135 (by kernel_rfl) rfl,fun W hb=>?_⟩;have h1:=hS.below hb;have k8:=h1.cell (j:=8) rfl;have kf8:=h1.frozen 8;have h2:=hE.below hb;have x0:=h2.cell (j:=0) rfl;have xf0:=h2.frozen 0
 by_cases h1:s.aN=true
 · try rw [h1] at k8
   have HH:=hide (And.intro h1 trivial);clear h1
   go_enter Tryz.func135,Tryz.ntmps135
   go_wp2;go_ret;exact ⟨aH (by obtain ⟨h1,_⟩:=HH.out;first | (simp [pG,h1];done) | (simp [pG,h1];omega) | (rw [Bool.eq_iff_iff];simp [pG,h1];omega)),hb⟩
 · have h1:s.aN=false:=by simpa using h1
   try rw [h1] at k8
   by_cases h2:e.x.kind=Sk.gu
   · have O9:=wt h2
     have HH:=hide (And.intro h1 (And.intro h2 trivial));clear h1 h2
     go_enter Tryz.func135,Tryz.ntmps135
     go_wp2;go_ret;exact ⟨aH (by obtain ⟨h1,h2,_⟩:=HH.out;first | (simp [pG,h1,h2];done) | (simp [pG,h1,h2];omega) | (rw [Bool.eq_iff_iff];simp [pG,h1,h2];omega)),hb⟩
   · have O8:=wf h2
     by_cases h3:e.x.kind=Sk.iI
     · have LK:=wt h3
       have HH:=hide (And.intro h1 (And.intro h2 (And.intro h3 trivial)));clear h1 h2 h3
       go_enter Tryz.func135,Tryz.ntmps135
       go_wp2;go_ret;exact ⟨aH (by obtain ⟨h1,h2,h3,_⟩:=HH.out;first | (simp [pG,h1,h2,h3];done) | (simp [pG,h1,h2,h3];omega) | (rw [Bool.eq_iff_iff];simp [pG,h1,h2,h3];omega)),hb⟩
     · have LJ:=wf h3
       have HH:=hide (And.intro h1 (And.intro h2 (And.intro h3 trivial)));clear h1 h2 h3
       go_enter Tryz.func135,Tryz.ntmps135
       go_wp2;go_ret;exact ⟨aH (by obtain ⟨h1,h2,h3,_⟩:=HH.out;first | (simp [pG,h1,h2,h3];done) | (simp [pG,h1,h2,h3];omega) | (rw [Bool.eq_iff_iff];simp [pG,h1,h2,h3];omega)),hb⟩
theorem akX (g:Sk.Game) (s:Sk.State) (e:En) (Dk Dg Ds De:Nat) (w:World) (hK:Held w Dk [.bool (decide (e.x.kind=Sk.cO))] 4) (hG:Held w Dg (bK g) 23) (hS:Held w Ds (aC s) 26) (hE:Held w De (dn e) 83):oH 136 #[ptr Dk,ptr Dg,ptr Ds,ptr De] (Sk.gB g s e.x) w:=by
 refine ⟨enters_of Tryz.func136 (by kernel_rfl) rfl,fun W hb=>?_⟩;have h1:=hS.below hb;have k4:=h1.cell (j:=4) rfl;have TU:=h1.frozen 4;have h2:=hE.below hb;have x1:=h2.cell (j:=1) rfl;have xf1:=h2.frozen 1;have h3:=hG.below hb;have g0:=h3.cell (j:=0) rfl;have ZY:=h3.frozen 0;have h4:=hK.below hb;have q0:=h4.cell (j:=0) rfl;have qf0:=h4.frozen 0;have hca:=fun W=>Em s e.x.called W;obtain ⟨yc,wC⟩:∃ y,Sk.callable s e.x.called=y:=⟨_,rfl⟩
 simp only [wC] at hca
 have TQ:=hide hca;have Kt:=hide wC;clear hca wC;obtain ⟨ys,hys⟩:∃ y,decide (e.x.kind=Sk.cO)=y:=⟨_,rfl⟩;rw [hys] at q0
 cases ys
 · have hk:¬ e.x.kind=Sk.cO:=of_decide_eq_false hys
   clear hys;have HH:=hide (And.intro hk trivial);clear hk
   go_enter Tryz.func136,Tryz.ntmps136
   go_wp2_with (first | ((with_reducible refine bJ 26 2 ?_);refine dW (h1) Tryz.underlying26 aj ?_) | ((with_reducible refine iy 26 2 ?_);refine oq (h1) Tryz.underlying26 aj ?_) | (go_at_call 95;refine (TQ.out _).mono ?_;rintro e1 w1 ⟨rfl,hb1⟩;have hb:=hb.trans (hb1.mono hb.size)))
   go_ret;exact ⟨aH (by have hcl:=Kt.out;obtain ⟨hk,_⟩:=HH.out;first | (simp [Sk.gB,hcl,hk];done) | (simp [Sk.gB,hcl,hk];omega) | (rw [Bool.eq_iff_iff];simp [Sk.gB,hcl,hk];omega)),hb⟩
 · have hk:e.x.kind=Sk.cO:=of_decide_eq_true hys
   clear hys
   by_cases h4:g.kind=Sk.aK
   · have LP:=wt h4
     by_cases h5:s.phase=Sk.dA
     · have UK:=wt h5
       by_cases h6:e.x.called=Sk.bU
       · have UM:=wt h6
         have HH:=hide (And.intro hk (And.intro h4 (And.intro h5 (And.intro h6 trivial))));clear hk h4 h5 h6
         go_enter Tryz.func136,Tryz.ntmps136
         go_wp2_with (first | ((with_reducible refine bJ 26 2 ?_);refine dW (h1) Tryz.underlying26 aj ?_) | ((with_reducible refine iy 26 2 ?_);refine oq (h1) Tryz.underlying26 aj ?_) | (go_at_call 95;refine (TQ.out _).mono ?_;rintro e1 w1 ⟨rfl,hb1⟩;have hb:=hb.trans (hb1.mono hb.size)))
         go_ret;exact ⟨aH (by have hcl:=Kt.out;obtain ⟨hk,h4,h5,h6,_⟩:=HH.out;first | (simp [Sk.gB,hcl,hk,h4,h5,h6];done) | (simp [Sk.gB,hcl,hk,h4,h5,h6];omega) | (rw [Bool.eq_iff_iff];simp [Sk.gB,hcl,hk,h4,h5,h6];omega)),hb⟩
       · have UL:=wf h6
         have HH:=hide (And.intro hk (And.intro h4 (And.intro h5 (And.intro h6 trivial))));clear hk h4 h5 h6
         go_enter Tryz.func136,Tryz.ntmps136
         go_wp2_with (first | ((with_reducible refine bJ 26 2 ?_);refine dW (h1) Tryz.underlying26 aj ?_) | ((with_reducible refine iy 26 2 ?_);refine oq (h1) Tryz.underlying26 aj ?_) | (go_at_call 95;refine (TQ.out _).mono ?_;rintro e1 w1 ⟨rfl,hb1⟩;have hb:=hb.trans (hb1.mono hb.size)))
         go_ret;exact ⟨aH (by have hcl:=Kt.out;obtain ⟨hk,h4,h5,h6,_⟩:=HH.out;first | (simp [Sk.gB,hcl,hk,h4,h5,h6];done) | (simp [Sk.gB,hcl,hk,h4,h5,h6];omega) | (rw [Bool.eq_iff_iff];simp [Sk.gB,hcl,hk,h4,h5,h6];omega)),hb⟩
     · have UJ:=wf h5
       by_cases h7:e.x.called=Sk.bU
       · have UO:=wt h7
         have HH:=hide (And.intro hk (And.intro h4 (And.intro h5 (And.intro h7 trivial))));clear hk h4 h5 h7
         go_enter Tryz.func136,Tryz.ntmps136
         go_wp2_with (first | ((with_reducible refine bJ 26 2 ?_);refine dW (h1) Tryz.underlying26 aj ?_) | ((with_reducible refine iy 26 2 ?_);refine oq (h1) Tryz.underlying26 aj ?_) | (go_at_call 95;refine (TQ.out _).mono ?_;rintro e1 w1 ⟨rfl,hb1⟩;have hb:=hb.trans (hb1.mono hb.size)))
         go_ret;exact ⟨aH (by have hcl:=Kt.out;obtain ⟨hk,h4,h5,h7,_⟩:=HH.out;first | (simp [Sk.gB,hcl,hk,h4,h5,h7];done) | (simp [Sk.gB,hcl,hk,h4,h5,h7];omega) | (rw [Bool.eq_iff_iff];simp [Sk.gB,hcl,hk,h4,h5,h7];omega)),hb⟩
       · have UN:=wf h7
         cases yc
         all_goals
          have HH:=hide (And.intro hk (And.intro h4 (And.intro h5 (And.intro h7 trivial))));clear hk h4 h5 h7
          go_enter Tryz.func136,Tryz.ntmps136
          go_wp2_with (first | ((with_reducible refine bJ 26 2 ?_);refine dW (h1) Tryz.underlying26 aj ?_) | ((with_reducible refine iy 26 2 ?_);refine oq (h1) Tryz.underlying26 aj ?_) | (go_at_call 95;refine (TQ.out _).mono ?_;rintro e1 w1 ⟨rfl,hb1⟩;have hb:=hb.trans (hb1.mono hb.size)))
          go_ret;exact ⟨aH (by have hcl:=Kt.out;obtain ⟨hk,h4,h5,h7,_⟩:=HH.out;first | (simp [Sk.gB,hcl,hk,h4,h5,h7];done) | (simp [Sk.gB,hcl,hk,h4,h5,h7];omega) | (rw [Bool.eq_iff_iff];simp [Sk.gB,hcl,hk,h4,h5,h7];omega)),hb⟩
   · have LM:=wf h4
     have HH:=hide (And.intro hk (And.intro h4 trivial));clear hk h4
     go_enter Tryz.func136,Tryz.ntmps136
     go_wp2_with (first | ((with_reducible refine bJ 26 2 ?_);refine dW (h1) Tryz.underlying26 aj ?_) | ((with_reducible refine iy 26 2 ?_);refine oq (h1) Tryz.underlying26 aj ?_) | (go_at_call 95;refine (TQ.out _).mono ?_;rintro e1 w1 ⟨rfl,hb1⟩;have hb:=hb.trans (hb1.mono hb.size)))
     go_ret;exact ⟨aH (by have hcl:=Kt.out;obtain ⟨hk,h4,_⟩:=HH.out;first | (simp [Sk.gB,hcl,hk,h4];done) | (simp [Sk.gB,hcl,hk,h4];omega) | (rw [Bool.eq_iff_iff];simp [Sk.gB,hcl,hk,h4];omega)),hb⟩
namespace Sk
theorem GV (s:State) (e:Entry):∀ (l:List ByteArray) (m:Int),lT s e m l≤m+3*l.length
 | [],m=>by rw [lT];simp
 | b::l,m=>by
   rw [lT];refine Int.le_trans (GV s e l _) ?_;rw [List.length_cons]
   split <;> omega
theorem FQ (l:List ByteArray) (b:ByteArray):count l b≤l.length:=by
 unfold count
 have:=List.length_filter_le (fun x=>decide (x=b)) l
 omega
theorem Gj {g:Game} {s:State} {e:Entry} (hc:s.colour≤7) (hp:e.aF.length≤22):(judge g s e).points≤1000000∧(judge g s e).penalty≤1000000:=by
 have hn:(e.aF.length:Int)≤22:=by omega
 have hw:=Ib (s:=s) (e:=e) hc
 unfold judge
 split
 · unfold eF
   split
   · have h2:=ES s e e.aF (if cu s e=2 then max (max 4 (worth s e)) (value (e.hits.headD bU)) else max 4 (worth s e)) (by
      have:=(lI (e.hits.headD bU)).2
      split <;> omega)
     exact ⟨by show (0:Int)≤1000000;decide,by show most _ _ _ _≤1000000;omega⟩
   · have:=FQ e.aF bG
     refine ⟨?_,by show (0:Int)≤1000000;decide⟩
     show dB s e≤1000000
     unfold dB
     repeat' split
     all_goals omega
 · split
   · unfold bC
     split
     · exact ⟨by show (0:Int)≤1000000;decide,by show (2:Int)≤1000000;decide⟩
     · split
       · exact ⟨by show (0:Int)≤1000000;decide,by show (2:Int)≤1000000;decide⟩
       · have:=GV s e e.aF (if eU s e then 2 else 0)
         refine ⟨?_,by show (0:Int)≤1000000;decide⟩
         show bW s e≤1000000
         unfold bW
         revert this
         split <;> intro <;> omega
   · unfold gG
     split
     · exact ⟨by show (1:Int)≤1000000;decide,by show (0:Int)≤1000000;decide⟩
     · exact ⟨by show (0:Int)≤1000000;decide,by show (0:Int)≤1000000;decide⟩
theorem xg {g:Game} {e:Entry} (h:dH g e=0) (hk:e.kind=cO):e.aF.length≤22:=by
 unfold dH at h
 split at h
 · simp at h
 · rw [if_neg (by simp [hk])] at h
   split at h
   · simp at h
   · rename_i hx;omega
theorem nM {g:Game} (h:dM g=0):jB g.kind=true:=by
 rcases iW h with ⟨h,_⟩ | ⟨h,_⟩ | ⟨h,_⟩ <;> simp [jB,h]
end Sk
theorem xX (S:Nat→Prop) (g:Sk.Game) (s:Sk.State) (e:En) (w:World) (ho:Sk.Ok g s) (hk:Sk.dH g e.x=0) (hc:Sk.gB g s e.x=true) (he:iL w S e):
 Calls Tryz.prog 81 #[lX g,jE s,rU e] w fun e_ w'=>e_= .returned (jE (Sk.next g s e.x))∧Below w.heap.size w w':=by
 refine J7 S g s e w ho.inr.turn fun hs W hb=>?_;have hv:=Sk.uh g s e.x ho.inr.colour (fun hg hp=>by have:=Sk.oZ hk hs hc hg hp;omega);have hu:=Sk.Gj (g:=g) (s:=s) (e:=e.x) ho.inr.colour.2 (Sk.xg hk hs);exact Hz S g s e W (Sk.nM ho.game) (MI ho) (he.below hb) ho.inr.s0 ho.inr.s1 ho.inr.brk ⟨hv.points,hu.1⟩ ⟨hv.penalty,hu.2⟩
theorem O5 {W:World} {n N:Nat} {k:ByteArray} {gb:Nat} (hb:W.heap[n]? =some (.map (gE N 3) 3)) (hk:Sk.jB k=true) (hg:iq k=gb):
 (Instr.lookup 123 (.map (some n)) (.string k) false).run Tryz.prog W= .ok (Oh (N+1+gI k) (oN (gI k)).length (ji k) (iw k) gb (gV k) (gJ k)) W:=by subst hg;exact fD hb hk false
theorem AL {W:World} {n N:Nat} {k:ByteArray} {gb:Nat} (hb:W.heap[n]? =some (.map (gE N 3) 3)) (hk:Sk.jB k=true) (hg:gV k=gb):
 (Instr.lookup 123 (.map (some n)) (.string k) false).run Tryz.prog W= .ok (Oh (N+1+gI k) (oN (gI k)).length (ji k) (iw k) (iq k) gb (gJ k)) W:=by subst hg;exact fD hb hk false
theorem SK {a n f1 f2 f3 f4 f5:Nat} {w:World}:(Instr.field 121 (Oh a n f1 f2 f3 f4 f5) 3).run Tryz.prog w= .ok (.func (.func f3) #[] #[]) w:=by kernel_rfl
theorem Ho {a n f1 f2 f3 f4 f5:Nat} {w:World}:(Instr.field 121 (Oh a n f1 f2 f3 f4 f5) 4).run Tryz.prog w= .ok (.func (.func f4) #[] #[]) w:=by kernel_rfl
theorem ak4 (S:Nat→Prop) (g:Sk.Game) (s:Sk.State) (e:En) (Dk Dg Ds De:Nat) (w:World) (ho:Sk.Ok g s) (he:iL w S e) (hK:Held w Dk [.bool (decide (e.x.kind=Sk.cO))] 4) (hG:Held w Dg (bK g) 23) (hS:Held w Ds (aC s) 26) (hE:Held w De (dn e) 83):oH 137 #[ptr Dk,ptr Dg,ptr Ds,ptr De] (!(decide (e.x.kind=Sk.cO)) || Sk.kK g s e.x) w:=by
 refine ⟨enters_of Tryz.func137 (by kernel_rfl) rfl,fun W hb=>?_⟩;have h1:=hS.below hb;have h2:=hE.below hb;have h3:=hG.below hb;have g0:=h3.cell (j:=0) rfl;have ZY:=h3.frozen 0;have h4:=hK.below hb;have q0:=h4.cell (j:=0) rfl;have qf0:=h4.frozen 0;have lk:=h4.lt;have lg:=h3.lt;have hk:=Sk.nM ho.game;have hba:=fun W (hb:Below w.heap.size w W)=>Dx S g s e W ho.inr.turn (he.below hb);have eg:=CW g.kind;have rlb:=@SK;obtain ⟨gb,hgb⟩:∃ x,iq g.kind=x:=⟨_,rfl⟩
 simp only [hgb] at hba eg
 have Ue:=hide hgb;have HBA:=hide hba
 have yu:∀ w':World,(fun w':World=>∀ p q,p<W.heap.size→w'.cell? ⟨p,q,none⟩=W.cell? ⟨p,q,none⟩) w'→w'.rangeAt Ds 0 (aC s):=fun w' h j v hj=>by rw [h _ _ h1.lt];exact h1.range j v hj
 have hrE:∀ w':World,(fun w':World=>∀ p q,p<W.heap.size→w'.cell? ⟨p,q,none⟩=W.cell? ⟨p,q,none⟩) w'→w'.rangeAt De 0 (dn e):=fun w' h j v hj=>by rw [h _ _ h2.lt];exact h2.range j v hj
 clear hgb hba;obtain ⟨ys,hys⟩:∃ y,decide (e.x.kind=Sk.cO)=y:=⟨_,rfl⟩;rw [hys] at q0;have HKI:=hide hys;clear hys
 cases ys
 · go_enter Tryz.func137,Tryz.ntmps137
   go_upto_region 1 with (fail)
   refine wp_region_held_drew (S:=(fun w':World=>∀ p q,p<W.heap.size→w'.cell? ⟨p,q,none⟩=W.cell? ⟨p,q,none⟩)) (by kernel_rfl) ?bg (fun hHeld=>?_)
   case bg=>exact fun p q hp=>rfl
   refine tk 0 ?_;refine tk 1 ?_;refine tk 2 ?_;refine tu 3 ?_;refine tu 4 ?_;refine tu 5 ?_;refine tu 6 ?_;refine tu 7 ?_;refine tu 8 ?_;refine tu 9 ?_;refine tu 10 ?_;refine tk 11 ?_;refine tk 12 ?_;refine wpAnyH_done (by kernel_rfl) ?_ _;go_wp2;go_ret;exact ⟨aH (by rw [HKI.out];rfl),hb.drew⟩
 · go_enter Tryz.func137,Tryz.ntmps137
   go_upto_region 1 with (fail)
   refine wp_region_held_drew (S:=(fun w':World=>∀ p q,p<W.heap.size→w'.cell? ⟨p,q,none⟩=W.cell? ⟨p,q,none⟩)) (by kernel_rfl) ?bV (fun hHeld=>?_)
   case bV=>exact fun p q hp=>rfl
   refine tk 0 ?_;refine tk 1 ?_;refine tk 2 ?_;refine tk 4 ?_;refine tk 5 ?_;refine wpAnyH_take (i:=8) (oi:=_) (v:=_) (ga rfl) (by kernel_rfl) (by kernel_rfl) (by kernel_rfl) (fun _ _ _ h=>h) (yieldsIf_load_mid (by rfl) _ _ (by rfl) _ _ (by rfl) _ _ yu Tryz.underlying26 rfl (by kernel_rfl)) (by assumption) ?_
   try simp only [Act.put,la,lz,ls]
   refine wpAnyH_take (i:=9) (oi:=_) (v:=_) (ga rfl) (by kernel_rfl) (by kernel_rfl) (by kernel_rfl) (fun _ _ _ h=>h) (yieldsIf_load_mid (by rfl) _ _ (by rfl) _ _ (by rfl) _ _ hrE Tryz.underlying83 rfl (by kernel_rfl)) (by assumption) ?_
   try simp only [Act.put,la,lz,ls]
   refine tr 3 fun K hK=>?_;go_simp
   (go_at_call 63;refine (fK _).mono ?_;rintro e1 w1 ⟨rfl,g3⟩;have hl1:=O5 (lC (n:=W.heap.size) g3 (by simp)) hk Ue.out;have hb1:=g3.bw)
   refine hK.out _ _ ?Q9 (fun hHeld=>?_)
   case Q9=>(exact fun p q hp=>hb1.cell (p:=⟨p,q,none⟩) hp)
   clear hK K
   try simp only [Act.put,la,lz,ls]
   refine tr 6 fun K hK=>?_;go_simp;refine hK.out _ _ ?xQ (fun hHeld=>?_)
   case xQ=>(exact fun p q hp=>hb1.cell (p:=⟨p,q,none⟩) hp)
   clear hK K
   try simp only [Act.put,la,lz,ls]
   refine tk 7 ?_;refine tr 10 fun K hK=>?_;go_simp
   (go_at_fn gb;refine (HBA.out _ (hb.drew.trans (hb1.mono hb.size))).mono ?_;rintro e2 w2 ⟨rfl,hb2⟩)
   refine hK.out _ _ ?wG (fun hHeld=>?_)
   case wG=>(exact fun p q hp=>(hb1.trans (hb2.mono hb1.size)).cell (p:=⟨p,q,none⟩) hp)
   clear hK K
   try simp only [Act.put,la,lz,ls]
   refine tk 11 ?_;refine tk 12 ?_;refine wpAnyH_done (by kernel_rfl) ?_ _;go_wp2;go_ret;exact ⟨aH (by rw [HKI.out];rfl),hb.drew.trans ((hb1.trans (hb2.mono hb1.size)).mono hb.size)⟩
theorem alb (S:Nat→Prop) (g:Sk.Game) (s:Sk.State) (e:En) (Dk Dg Ds De:Nat) (w:World) (acH:Sk.gB g s e.x=true) (hck:Sk.dH g e.x=0) (ho:Sk.Ok g s) (he:iL w S e) (hK:Held w Dk [.bool (decide (e.x.kind=Sk.cO))] 4) (hG:Held w Dg (bK g) 23) (hS:Held w Ds (aC s) 26) (hE:Held w De (dn e) 83):oH 138 #[ptr Dk,ptr Dg,ptr Ds,ptr De] (decide (e.x.kind=Sk.cO→max (Sk.next g s e.x).s0 (Sk.next g s e.x).s1≤99999)) w:=by
 refine ⟨enters_of Tryz.func138 (by kernel_rfl) rfl,fun W hb=>?_⟩;have h1:=hS.below hb;have h2:=hE.below hb;have h3:=hG.below hb;have h4:=hK.below hb;have q0:=h4.cell (j:=0) rfl;have qf0:=h4.frozen 0;have HNX:=hide fun W (hb:Below w.heap.size w W)=>xX S g s e W ho hck acH (he.below hb)
 obtain ⟨nx,hnx⟩:∃ x,Sk.next g s e.x=x:=⟨_,rfl⟩
 rw [hnx] at HNX ⊢;clear hnx acH hck
 by_cases hk:e.x.kind=Sk.cO
 · rw [show decide (e.x.kind=Sk.cO)=true by simp [hk]] at q0
   rw [show decide (e.x.kind=Sk.cO→max nx.s0 nx.s1≤99999)=decide (max nx.s0 nx.s1≤99999) by simp [hk]];clear hk
   go_enter Tryz.func138,Tryz.ntmps138
   have hZ:=Held.new W (aC Sk.zero) 26
   go_wp2_with (first | ((with_reducible refine bJ 23 1 ?_);refine dW (h3) Tryz.underlying23 dQ ?_) | ((with_reducible refine iy 23 1 ?_);refine oq (h3) Tryz.underlying23 dQ ?_) | ((with_reducible refine bJ 26 2 ?_);refine dW (h1) Tryz.underlying26 aj ?_) | ((with_reducible refine iy 26 2 ?_);refine oq (h1) Tryz.underlying26 aj ?_) | ((with_reducible refine bJ 83 3 ?_);refine dW (h2) Tryz.underlying83 bI ?_) | ((with_reducible refine iy 83 3 ?_);refine oq (h2) Tryz.underlying83 bI ?_) | (go_at_call 81;refine (HNX.out _ hb).mono ?_;rintro e1 w1 ⟨rfl,hb1⟩) | ((with_reducible refine isS 26 5 11 ?_);refine fU (hZ') (aC nx) aj (aT _) ?_))
   all_goals
    go_ret;exact ⟨aH (by rw [decide_eq_decide];omega),(hb.trans (hb1.mono hb.size)).alloc (Nat.le_trans hb.size hb1.size) _⟩
 · rw [show decide (e.x.kind=Sk.cO)=false by simp [hk]] at q0
   rw [show decide (e.x.kind=Sk.cO→max nx.s0 nx.s1≤99999)=true by simp [hk]];clear hk
   go_enter Tryz.func138,Tryz.ntmps138
   go_wp2;go_ret;exact ⟨rfl,hb⟩
def lgF:Nat→Nat
 | 0=>134
 | 1=>135
 | 2=>136
 | 3=>137
 | _=>138
def lgB (n D:Nat):Nat→Array Value
 | 0=> #[ptr (n+1)]
 | 1=> #[ptr (n+1),ptr (n+2)]
 | _=> #[ptr D,ptr n,ptr (n+1),ptr (n+2)]
def WS (g:Sk.Game) (s:Sk.State) (e:Sk.Entry):List Bool:=[decide (s.ay<0),pG s e,Sk.gB g s e, !(decide (e.kind=Sk.cO)) || Sk.kK g s e,decide (e.kind=Sk.cO→max (Sk.next g s e).s0 (Sk.next g s e).s1≤99999)]
theorem xH {α:Type} {p:Bool} {q:Prop} [Decidable q] {x y k:α} (h:p=true↔¬ q) (hx:x=y):(if p=true then x else k)=if q then k else y:=by
 subst hx
 by_cases hq:q
 · rw [if_pos hq,if_neg (fun e=>h.1 e hq)]
 · rw [if_neg hq,if_pos (h.2 hq)]
theorem MG (g:Sk.Game) (s:Sk.State) (e:Sk.Entry):brk 1 (WS g s e)=Sk.legal g s e:=by
 unfold Sk.legal WS brk brk brk brk brk brk pG
 refine xH ?_ (xH ?_ (xH ?_ (xH ?_ (xH ?_ rfl))))
 · simp
 · cases s.aN <;> simp [not_or]
 · simp
 · simp only [Bool.or_eq_true,Bool.not_eq_true',decide_eq_false_iff_not,not_and]
   cases Sk.kK g s e <;> simp
 · simp only [decide_eq_true_eq,not_and,Int.not_lt]
theorem sO (S:Nat→Prop) (g:Sk.Game) (s:Sk.State) (e:En) (w:World) (ho:Sk.Ok g s) (hk:Sk.dH g e.x=0) (he:iL w S e):Calls Tryz.prog 80 #[lX g,jE s,rU e] w fun e_ w'=>e_= .returned (.int .i64 (Sk.legal g s e.x))∧Below w.heap.size w w':=by
 go_enter Tryz.func80,Tryz.ntmps80
 go_upto_region 0 with (fail)
 go_cut [3,4,5,6] (fun v3 v4 v5 v6 wx=>v3=ptr w.heap.size∧v4=ptr (w.heap.size+1)∧v5=ptr (w.heap.size+2)∧v6= .int .i64 0∧aG w wx [(bK g,23),(aC s,26),(dn e,83)])
 case first=>
  go_wp2;go_meet;exact ⟨rfl,rfl,rfl,rfl,((((aG.nil w).new (by simp) (bK g) _).new (by simp) (aC s) _).new (by simp) (dn e) _)⟩
 case rest=>
  obtain ⟨rfl,rfl,rfl,rfl,hB⟩:=hcut;have x0:=(hB.get 2 rfl).cell (j:=0) rfl;have hsz:=hB.size (by simp)
  go_upto_region 1 with (fail)
  go_cut [7] (fun v7 wx=>∃ D,v7=ptr D∧Held wx D [.bool (decide (e.x.kind=Sk.cO))] 4∧aG w wx [(bK g,23),(aC s,26),(dn e,83)])
  case first=>
   by_cases hk:e.x.kind=Sk.cO
   · have hk1:=wt hk
     have hk2:decide (e.x.kind=Sk.cO)=true:=by simp [hk]
     have HK2:=hide hk2;clear hk hk2;go_wp2;go_meet;rw [HK2.out];exact ⟨_,rfl,Held.new wc [.bool true] _,hB.alloc (by simp) _⟩
   · have hk1:=wf hk
     have hk2:decide (e.x.kind=Sk.cO)=false:=by simp [hk]
     have HK2:=hide hk2;clear hk hk2;go_wp2;go_meet;rw [HK2.out];exact ⟨_,rfl,Held.new wc [.bool false] _,hB.alloc (by simp) _⟩
  case rest=>
   obtain ⟨D,rfl,hD4,hB4⟩:=hcut
   have hW:∀ (W:World),Below wc.heap.size wc W→∀ j (hj:j<(WS g s e.x).length),(∀ i (hi:i<(WS g s e.x).length),i<j→(WS g s e.x)[i]=true)→oH (lgF j) (lgB w.heap.size D j) (WS g s e.x)[j] W:=by
    intro W hb j hj hp;have jc:=hB4.call (by simp) hb;have Wu:=he.below jc.bw;have hG5:=jc.get 0 rfl;have hS5:=jc.get 1 rfl;have Wx:=jc.get 2 rfl;have hK5:=hD4.below hb
    match j,hj,hp with
    | 0,_,_=>exact akJ s _ W hS5
    | 1,_,_=>exact akQ s e _ _ W hS5 Wx
    | 2,_,_=>exact akX g s e _ _ _ _ W hK5 hG5 hS5 Wx
    | 3,_,_=>exact ak4 S g s e _ _ _ _ W ho Wu hK5 hG5 hS5 Wx
    | 4,_,hp=>exact alb S g s e _ _ _ _ W (hp 2 (by simp [WS]) (by omega)) hk ho Wu hK5 hG5 hS5 Wx
   have hBR:∀ t,Calls Tryz.prog 133 #[.slice (some ⟨wc.heap.size,0,none⟩) 5 5] (wc.alloc (.cells #[.func (.func 134) #[] #[ptr (w.heap.size+1)],.func (.func 135) #[] #[ptr (w.heap.size+1),ptr (w.heap.size+2)],.func (.func 136) #[] #[ptr D,ptr w.heap.size,ptr (w.heap.size+1),ptr (w.heap.size+2)],.func (.func 137) #[] #[ptr D,ptr w.heap.size,ptr (w.heap.size+1),ptr (w.heap.size+2)],.func (.func 138) #[] #[ptr D,ptr w.heap.size,ptr (w.heap.size+1),ptr (w.heap.size+2)]] t)) fun r w'=>r= .returned (.int .i64 (Sk.legal g s e.x))∧Below w.heap.size w w':=by
    intro t;refine (Iz wc.heap.size 0 5 5 lgF (lgB w.heap.size D) (WS g s e.x) _ rfl (by omega) (by simp) ?_ (hW _ ((Below.refl _ _).alloc (Nat.le_refl _) _))).mono ?_
    · intro j hj
      rw [Nat.zero_add]
      match j,hj with
      | 0,_=>exact qR _ [_,_,_,_,_] _ _ rfl 0 _ rfl
      | 1,_=>exact qR _ [_,_,_,_,_] _ _ rfl 1 _ rfl
      | 2,_=>exact qR _ [_,_,_,_,_] _ _ rfl 2 _ rfl
      | 3,_=>exact qR _ [_,_,_,_,_] _ _ rfl 3 _ rfl
      | 4,_=>exact qR _ [_,_,_,_,_] _ _ rfl 4 _ rfl
    · rintro e w' ⟨rfl,hb'⟩
      exact ⟨by rw [MG],(hB4.alloc (by simp) _).bw.trans (hb'.mono ((hB4.alloc (by simp) _).bw.size))⟩
   have HBR:=hide hBR;clear hBR hW
   go_wp2_with (go_at_call 133;refine (HBR.out _).mono ?_;rintro e w2 ⟨rfl,hb2⟩)
   go_ret;exact ⟨rfl,hb2⟩
theorem Cj:∀ (k:Nat) (c:Int),Sk.jS c (k+1)=Sk.jS c k+(c+k)
 | 0,c=>by simp [Sk.jS]
 | k+1,c=>by
   rw [Sk.jS,Cj k (c+1),Sk.jS]
   push_cast
   omega
theorem Ll (c:Int) (h:0≤c):∀ k:Nat,(k:Int)≤8 - c→0≤Sk.jS c k∧Sk.jS c k≤8*k
 | 0,_=>by simp [Sk.jS]
 | k+1,hk=>by
   have:=Ll c h k (by omega)
   rw [Cj]
   omega
theorem uG (s:Sk.State) (hc:0≤s.colour∧s.colour≤7) (hre:0≤s.aY∧s.aY≤15) (w:World):Calls Tryz.prog 76 #[jE s] w fun e w'=>e= .returned (.int .i64 (Sk.left s))∧Below w.heap.size w w':=by
 go_enter Tryz.func76,Tryz.ntmps76
 go_upto_region 0 with (fail)
 go_cut [1,2] (fun v1 v2 wx=>v1=ptr w.heap.size∧v2= .int .i64 0∧aG w wx [(aC s,26)])
 case first=>
  go_wp2;go_meet;exact ⟨rfl,rfl,((aG.nil w).new (by simp) (aC s) _)⟩
 case rest=>
  obtain ⟨rfl,rfl,hB⟩:=hcut;have hF:=hB.au rfl;have k4:=hF.cell (j:=4) rfl;have TU:=hF.frozen 4;have k5:=hF.cell (j:=5) rfl;have kf5:=hF.frozen 5;have k6:=hF.cell (j:=6) rfl;have Vq:=hF.frozen 6;have k7:=hF.cell (j:=7) rfl;have WQ:=hF.frozen 7;have k12:=hF.cell (j:=12) rfl;have afN:=hF.frozen 12
  by_cases h1:0≤s.ay
  · have h11:decide (0≤s.ay)=true:=decide_eq_true h1
    have HM:=hide (show Sk.left s=0 by unfold Sk.left;rw [if_pos h1]);clear h1;go_wp2;go_ret;exact ⟨aV HM.out.symm,hB.bw⟩
  · have h11:decide (0≤s.ay)=false:=decide_eq_false h1
    by_cases h2:s.phase=Sk.fM
    · have h21:=wt h2
      rcases Bool.eq_false_or_eq_true s.free with hf | hf
      all_goals
       rw [hf] at k7;have HM:=hide (show Sk.left s=8*s.aY+27+(if s.free then 8 else 0) by unfold Sk.left;rw [if_neg h1,if_pos h2]);have HF:=hide hf;clear hf
       try clear h1 h2
       go_wp2;go_ret;exact ⟨aV (by rw [HM.out,HF.out];simp),hB.bw⟩
    · have h21:=wf h2
      by_cases h3:s.phase=Sk.dA
      · have h31:=wt h3
        have HM:=hide (show Sk.left s=8*s.aY+27+7 by unfold Sk.left;rw [if_neg h1,if_neg h2,if_pos h3]);clear h1 h2 h3;go_wp2;go_ret;exact ⟨aV (by rw [HM.out]),hB.bw⟩
      · have h31:=wf h3
        have HM:=hide (show Sk.left s=Sk.jS s.colour (8 - s.colour).toNat+(if s.free∧s.colour<7 then s.colour else 0) by unfold Sk.left;rw [if_neg h1,if_neg h2,if_neg h3]);clear h1 h2 h3;go_wp2
        go_loop [4,5] (fun v4 v5=>∃ k:Nat,(k:Int)≤8 - s.colour∧v5= .int .i64 (s.colour+k)∧v4= .int .i64 (Sk.jS s.colour k)) (fun _ v5=>(8 - intOf v5).toNat)
        case atStart=>exact ⟨0,by omega,by simp,rfl⟩
        case round=>
         obtain ⟨k,hk,rfl,rfl⟩:=hrel;have htp:=Ll s.colour hc.1 k hk
         by_cases hlt:s.colour+k≤7
         · have hl1:decide (s.colour+(k:Int)≤7)=true:=decide_eq_true hlt
           have hsm:=Cj k s.colour;obtain ⟨m,hm⟩:∃ m,Sk.jS s.colour k=m:=⟨_,rfl⟩;rw [hm] at hsm htp ⊢;have HS:=hide hsm;clear hsm hm;go_wp2
           go_round
           case rel=>exact ⟨k+1,by omega,congrArg (Value.int .i64) (by push_cast;omega),congrArg (Value.int .i64) (by have h:=HS.out;omega)⟩
           case measure=>simp [intOf];omega
         · have hl1:decide (s.colour+(k:Int)≤7)=false:=decide_eq_false hlt
           have hk8:(8 - s.colour).toNat=k:=by omega
           have rQ:=hide (show Sk.left s=Sk.jS s.colour k+(if s.free∧s.colour<7 then s.colour else 0) by rw [HM.out,hk8]);obtain ⟨m,hm⟩:∃ m,Sk.jS s.colour k=m:=⟨_,rfl⟩;rw [hm] at htp rQ ⊢;clear hk8 hm hlt
           rcases Bool.eq_false_or_eq_true s.free with hf | hf
           · rw [hf] at k7
             have HF:=hide hf;clear hf
             by_cases h7:s.colour<7
             · have h71:decide (s.colour<7)=true:=decide_eq_true h7
               go_wp2;go_ret;exact ⟨aV (by rw [rQ.out,if_pos ⟨HF.out,h7⟩]),hB.bw⟩
             · have h71:decide (s.colour<7)=false:=decide_eq_false h7
               go_wp2;go_ret;exact ⟨aV (by rw [rQ.out,if_neg (fun h=>by have:=h.2;omega)];omega),hB.bw⟩
           · rw [hf] at k7
             have HF:=hide hf;clear hf;go_wp2;go_ret;exact ⟨aV (by rw [rQ.out,if_neg (fun h=>by have:=h.1;rw [HF.out] at this;cases this)];omega),hB.bw⟩
theorem yD {g:Sk.Game} {s:Sk.State} (h:Sk.dh g s=0):(0≤s.colour∧s.colour≤7)∧(0≤s.aY∧s.aY≤15)∧(s.turn=0∨s.turn=1):=by
 have ho:=Sk.kG.1 h;have hi:=ho.inr;have hg:=Sk.iW ho.game;have h1:=hi.colour;have h2:=hi.aY;exact ⟨h1,by rcases hg with ⟨_,h3,_⟩ | ⟨_,h3,_⟩ | ⟨_,h3,_⟩ <;> omega,hi.turn⟩
theorem xB (c:Int) (b:Bool) (e:Int):fst [c,jg b e]=if c≠0 then c else jg b e:=by
 unfold fst fst fst
 by_cases h:c=0
 · simp only [h,ne_eq,not_true,if_false]
   by_cases h2:jg b e=0 <;> simp [h2]
 · simp [h]
theorem BR (g:Sk.Game) (s:Sk.State) (w:World):Calls Tryz.prog 37 #[lX g,jE s] w fun e w'=>e= .returned (.tuple #[.int .i64 (if fst [Sk.dh g s,jg (decide (g.kind≠Sk.aK)) 13]=0 then Sk.left s else 0),.int .i64 (fst [Sk.dh g s,jg (decide (g.kind≠Sk.aK)) 13])])∧Below w.heap.size w w':=by
 by_cases hg:g.kind=Sk.aK
 · have hg1:=wt hg
   have hg2:(g.kind.toList != [115,110,111,111,107,101,114])=false:=by rw [bne,hg1];rfl
   rw [show decide (g.kind≠Sk.aK)=false by simp [hg]];clear hg
   by_cases hz:fst [Sk.dh g s,jg false 13]=0
   · have hz':(fst [Sk.dh g s,jg false 13] != 0)=false:=by simp [hz]
     have hck:Sk.dh g s=0:=by rw [xB] at hz;by_cases h:Sk.dh g s=0;exact h;rw [if_pos h] at hz;exact hz
     obtain ⟨F8,CZ,_⟩:=yD hck;rw [if_pos hz];have HZ:=hide hz;clear hz hck
     go_enter Tryz.func37,Tryz.ntmps37
     go_upto_region 0 with (fail)
     go_cut [2,3,4,5] (fun v2 v3 v4 v5 wx=>v2=ptr w.heap.size∧v3=ptr (w.heap.size+1)∧v4= .int .i64 0∧v5= .int .i64 0∧aG w wx [(bK g,23),(aC s,26)])
     case first=>
      go_wp2;go_meet;exact ⟨rfl,rfl,rfl,rfl,(((aG.nil w).new (by simp) (bK g) _).new (by simp) (aC s) _)⟩
     case rest=>
      obtain ⟨rfl,rfl,rfl,rfl,hB⟩:=hcut;have hsz:=hB.size (by simp)
      simp only [List.length_cons,List.length_nil] at hsz
      have k0:=(hB.au rfl).cell (j:=0) rfl
      have hrG:∀ W:World,(fun w':World=>∀ p q,p<w.heap.size+2→w'.cell? ⟨p,q,none⟩=wc.cell? ⟨p,q,none⟩) W→W.rangeAt w.heap.size 0 (bK g):=fun W h j v hj=>by rw [h _ _ (by omega)];exact (hB.au rfl).range j v hj
      have yu:∀ W:World,(fun w':World=>∀ p q,p<w.heap.size+2→w'.cell? ⟨p,q,none⟩=wc.cell? ⟨p,q,none⟩) W→W.rangeAt (w.heap.size+1) 0 (aC s):=fun W h j v hj=>by rw [h _ _ (by omega)];exact (hB.get 1 rfl).range j v hj
      go_upto_region 1 with (fail)
      refine wp_region_held_drew (S:=(fun w':World=>∀ p q,p<w.heap.size+2→w'.cell? ⟨p,q,none⟩=wc.cell? ⟨p,q,none⟩)) (by kernel_rfl) ?bg (fun hHeld=>?_)
      case bg=>exact fun p q h=>rfl
      refine bD 0 hrG Tryz.underlying23 ?_;refine bD 1 yu Tryz.underlying26 ?_;refine aA 3 ?_;refine aA 4 ?_;refine aA 5 ?_;refine aB 2 fun K hK=>?_;go_simp
      (go_at_call 18;refine (jO g s _).mono ?_;rintro e1 w1 ⟨rfl,hb1⟩;have hb8:Below wc.heap.size wc w1:=⟨hb1.os,hb1.tape,hb1.output,hb1.size,hb1.block⟩;have hB1:=hB.drew.call (by simp) hb1)
      refine ak hK (fun p q h=>hb8.cell (p:=⟨p,q,none⟩) (Nat.lt_of_lt_of_le h hsz)) fun hHeld=>?_;clear hK K;refine aB 6 fun K hK=>?_;go_simp
      (go_at_call 64;refine (dL _ _ _).mono ?_;rintro e1 qK ⟨rfl,rfl⟩)
      refine ak hK (by first | exact fun p q h=>hb8.cell (p:=⟨p,q,none⟩) (Nat.lt_of_lt_of_le h hsz) | exact fun p q h=>rfl) fun hHeld=>?_;clear hK K;refine aB 7 fun K hK=>?_;go_simp;refine ak hK (fun p q h=>(hb8.alloc hb8.size _).cell (p:=⟨p,q,none⟩) (Nat.lt_of_lt_of_le h hsz)) fun hHeld=>?_;clear hK K;refine aB 8 fun K hK=>?_;go_simp
      (go_at_call 67;refine (iK (fun _=>True) _ _ [Sk.dh g s,jg false 13] _ (nI.row _ _ [Sk.dh g s,jg false 13] (by simp) _ trivial)).mono ?_;rintro e1 qK ⟨rfl,rfl⟩)
      refine ak hK (fun p q h=>(hb8.alloc hb8.size _).cell (p:=⟨p,q,none⟩) (Nat.lt_of_lt_of_le h hsz)) fun hHeld=>?_;clear hK K;refine aA 9 ?_;refine wpAnyH_done (by kernel_rfl) ?_ _;have kC:=hB1.alloc (by simp) (.cells #[.int .i64 (Sk.dh g s),.int .i64 (jg false 13)] 34)
      go_wp2_with (first | ((with_reducible refine bJ 26 3 ?_);refine dW (kC.get 1 rfl) Tryz.underlying26 aj ?_) | (go_at_call 76;refine (uG s F8 CZ _).mono ?_;rintro e1 w5 ⟨rfl,hb5⟩;have kC:=kC.call (by simp) hb5))
      go_ret2;exact ⟨by first | rfl | (rw [HZ.out];rfl),kC.bw⟩
   · have hz':(fst [Sk.dh g s,jg false 13] != 0)=true:=by simp [hz]
     rw [if_neg hz];have HZ:=hide hz;clear hz
     go_enter Tryz.func37,Tryz.ntmps37
     go_upto_region 0 with (fail)
     go_cut [2,3,4,5] (fun v2 v3 v4 v5 wx=>v2=ptr w.heap.size∧v3=ptr (w.heap.size+1)∧v4= .int .i64 0∧v5= .int .i64 0∧aG w wx [(bK g,23),(aC s,26)])
     case first=>
      go_wp2;go_meet;exact ⟨rfl,rfl,rfl,rfl,(((aG.nil w).new (by simp) (bK g) _).new (by simp) (aC s) _)⟩
     case rest=>
      obtain ⟨rfl,rfl,rfl,rfl,hB⟩:=hcut;have hsz:=hB.size (by simp)
      simp only [List.length_cons,List.length_nil] at hsz
      have k0:=(hB.au rfl).cell (j:=0) rfl
      have hrG:∀ W:World,(fun w':World=>∀ p q,p<w.heap.size+2→w'.cell? ⟨p,q,none⟩=wc.cell? ⟨p,q,none⟩) W→W.rangeAt w.heap.size 0 (bK g):=fun W h j v hj=>by rw [h _ _ (by omega)];exact (hB.au rfl).range j v hj
      have yu:∀ W:World,(fun w':World=>∀ p q,p<w.heap.size+2→w'.cell? ⟨p,q,none⟩=wc.cell? ⟨p,q,none⟩) W→W.rangeAt (w.heap.size+1) 0 (aC s):=fun W h j v hj=>by rw [h _ _ (by omega)];exact (hB.get 1 rfl).range j v hj
      go_upto_region 1 with (fail)
      refine wp_region_held_drew (S:=(fun w':World=>∀ p q,p<w.heap.size+2→w'.cell? ⟨p,q,none⟩=wc.cell? ⟨p,q,none⟩)) (by kernel_rfl) ?bV (fun hHeld=>?_)
      case bV=>exact fun p q h=>rfl
      refine bD 0 hrG Tryz.underlying23 ?_;refine bD 1 yu Tryz.underlying26 ?_;refine aA 3 ?_;refine aA 4 ?_;refine aA 5 ?_;refine aB 2 fun K hK=>?_;go_simp
      (go_at_call 18;refine (jO g s _).mono ?_;rintro e1 w1 ⟨rfl,hb1⟩;have hb8:Below wc.heap.size wc w1:=⟨hb1.os,hb1.tape,hb1.output,hb1.size,hb1.block⟩;have hB1:=hB.drew.call (by simp) hb1)
      refine ak hK (fun p q h=>hb8.cell (p:=⟨p,q,none⟩) (Nat.lt_of_lt_of_le h hsz)) fun hHeld=>?_;clear hK K;refine aB 6 fun K hK=>?_;go_simp
      (go_at_call 64;refine (dL _ _ _).mono ?_;rintro e1 qK ⟨rfl,rfl⟩)
      refine ak hK (by first | exact fun p q h=>hb8.cell (p:=⟨p,q,none⟩) (Nat.lt_of_lt_of_le h hsz) | exact fun p q h=>rfl) fun hHeld=>?_;clear hK K;refine aB 7 fun K hK=>?_;go_simp;refine ak hK (fun p q h=>(hb8.alloc hb8.size _).cell (p:=⟨p,q,none⟩) (Nat.lt_of_lt_of_le h hsz)) fun hHeld=>?_;clear hK K;refine aB 8 fun K hK=>?_;go_simp
      (go_at_call 67;refine (iK (fun _=>True) _ _ [Sk.dh g s,jg false 13] _ (nI.row _ _ [Sk.dh g s,jg false 13] (by simp) _ trivial)).mono ?_;rintro e1 qK ⟨rfl,rfl⟩)
      refine ak hK (fun p q h=>(hb8.alloc hb8.size _).cell (p:=⟨p,q,none⟩) (Nat.lt_of_lt_of_le h hsz)) fun hHeld=>?_;clear hK K;refine aA 9 ?_;refine wpAnyH_done (by kernel_rfl) ?_ _;have kC:=hB1.alloc (by simp) (.cells #[.int .i64 (Sk.dh g s),.int .i64 (jg false 13)] 34);go_wp2;go_ret2;exact ⟨rfl,kC.bw⟩
 · have hg1:=wf hg
   have hg2:(g.kind.toList != [115,110,111,111,107,101,114])=true:=by rw [bne,hg1];rfl
   rw [show decide (g.kind≠Sk.aK)=true by simp [hg]];clear hg
   have hz:¬ fst [Sk.dh g s,jg true 13]=0:=by
    rw [xB]
    by_cases h:Sk.dh g s=0
    · rw [if_neg (by simpa using h)];decide
    · rw [if_pos h];exact h
   have hz':(fst [Sk.dh g s,jg true 13] != 0)=true:=by simp [hz]
   rw [if_neg hz];have HZ:=hide hz;clear hz
   go_enter Tryz.func37,Tryz.ntmps37
   go_upto_region 0 with (fail)
   go_cut [2,3,4,5] (fun v2 v3 v4 v5 wx=>v2=ptr w.heap.size∧v3=ptr (w.heap.size+1)∧v4= .int .i64 0∧v5= .int .i64 0∧aG w wx [(bK g,23),(aC s,26)])
   case first=>
    go_wp2;go_meet;exact ⟨rfl,rfl,rfl,rfl,(((aG.nil w).new (by simp) (bK g) _).new (by simp) (aC s) _)⟩
   case rest=>
    obtain ⟨rfl,rfl,rfl,rfl,hB⟩:=hcut;have hsz:=hB.size (by simp)
    simp only [List.length_cons,List.length_nil] at hsz
    have k0:=(hB.au rfl).cell (j:=0) rfl
    have hrG:∀ W:World,(fun w':World=>∀ p q,p<w.heap.size+2→w'.cell? ⟨p,q,none⟩=wc.cell? ⟨p,q,none⟩) W→W.rangeAt w.heap.size 0 (bK g):=fun W h j v hj=>by rw [h _ _ (by omega)];exact (hB.au rfl).range j v hj
    have yu:∀ W:World,(fun w':World=>∀ p q,p<w.heap.size+2→w'.cell? ⟨p,q,none⟩=wc.cell? ⟨p,q,none⟩) W→W.rangeAt (w.heap.size+1) 0 (aC s):=fun W h j v hj=>by rw [h _ _ (by omega)];exact (hB.get 1 rfl).range j v hj
    go_upto_region 1 with (fail)
    refine wp_region_held_drew (S:=(fun w':World=>∀ p q,p<w.heap.size+2→w'.cell? ⟨p,q,none⟩=wc.cell? ⟨p,q,none⟩)) (by kernel_rfl) ?dJ (fun hHeld=>?_)
    case dJ=>exact fun p q h=>rfl
    refine bD 0 hrG Tryz.underlying23 ?_;refine bD 1 yu Tryz.underlying26 ?_;refine aA 3 ?_;refine aA 4 ?_;refine aA 5 ?_;refine aB 2 fun K hK=>?_;go_simp
    (go_at_call 18;refine (jO g s _).mono ?_;rintro e1 w1 ⟨rfl,hb1⟩;have hb8:Below wc.heap.size wc w1:=⟨hb1.os,hb1.tape,hb1.output,hb1.size,hb1.block⟩;have hB1:=hB.drew.call (by simp) hb1)
    refine ak hK (fun p q h=>hb8.cell (p:=⟨p,q,none⟩) (Nat.lt_of_lt_of_le h hsz)) fun hHeld=>?_;clear hK K;refine aB 6 fun K hK=>?_;go_simp
    (go_at_call 64;refine (dL _ _ _).mono ?_;rintro e1 qK ⟨rfl,rfl⟩)
    refine ak hK (by first | exact fun p q h=>hb8.cell (p:=⟨p,q,none⟩) (Nat.lt_of_lt_of_le h hsz) | exact fun p q h=>rfl) fun hHeld=>?_;clear hK K;refine aB 7 fun K hK=>?_;go_simp;refine ak hK (fun p q h=>(hb8.alloc hb8.size _).cell (p:=⟨p,q,none⟩) (Nat.lt_of_lt_of_le h hsz)) fun hHeld=>?_;clear hK K;refine aB 8 fun K hK=>?_;go_simp
    (go_at_call 67;refine (iK (fun _=>True) _ _ [Sk.dh g s,jg true 13] _ (nI.row _ _ [Sk.dh g s,jg true 13] (by simp) _ trivial)).mono ?_;rintro e1 qK ⟨rfl,rfl⟩)
    refine ak hK (fun p q h=>(hb8.alloc hb8.size _).cell (p:=⟨p,q,none⟩) (Nat.lt_of_lt_of_le h hsz)) fun hHeld=>?_;clear hK K;refine aA 9 ?_;refine wpAnyH_done (by kernel_rfl) ?_ _;have kC:=hB1.alloc (by simp) (.cells #[.int .i64 (Sk.dh g s),.int .i64 (jg true 13)] 34);go_wp2;go_ret2;exact ⟨rfl,kC.bw⟩
theorem IB {g:Sk.Game} {s:Sk.State} {e:Sk.Entry} (h:pq g s e=0):Sk.Ok g s∧Sk.dH g e=0:=by
 unfold pq at h
 by_cases h1:Sk.dh g s=0
 · rw [if_neg (by simpa using h1)] at h;exact ⟨Sk.kG.1 h1,h⟩
 · rw [if_pos h1] at h;exact absurd h h1
def Qj (g:Sk.Game) (s:Sk.State) (p:Int):Int:=fst [Sk.dh g s,jg (Sk.out p 0 1) 3,jg (decide (g.kind≠Sk.aK)) 13,jg (decide (0≤s.ay)) 20]
def Zz (g:Sk.Game) (s:Sk.State) (p:Int):Int:=if Qj g s p=0 then Sk.needed s p else 0
theorem xA (c:Int) (l:List Int):fst (c::l)=if c≠0 then c else fst l:=rfl
theorem Ia {b:Bool} {e:Int} (he:e≠0):jg b e=0↔b=false:=by unfold jg;cases b <;> simp [he]
theorem Qk {g:Sk.Game} {s:Sk.State} {p:Int} (h:Qj g s p=0):Sk.dh g s=0∧(p=0∨p=1)∧g.kind=Sk.aK∧s.ay<0:=by
 unfold Qj at h
 rw [xA,xA,xA,xA] at h
 by_cases h1:Sk.dh g s=0
 · rw [if_neg (by simpa using h1)] at h
   by_cases h2:jg (Sk.out p 0 1) 3=0
   · rw [if_neg (by simpa using h2)] at h
     by_cases h3:jg (decide (g.kind≠Sk.aK)) 13=0
     · rw [if_neg (by simpa using h3)] at h
       by_cases h4:jg (decide (0≤s.ay)) 20=0
       · rw [Ia (by decide)] at h2 h3 h4
         refine ⟨h1,?_,by simpa using h3,by simpa using h4⟩
         unfold Sk.out at h2
         simp at h2
         omega
       · rw [if_pos h4] at h;exact absurd h h4
     · rw [if_pos h3] at h;exact absurd h h3
   · rw [if_pos h2] at h;exact absurd h h2
 · rw [if_pos h1] at h;exact absurd h h1
theorem D5 (s:Sk.State) (lack:Int) {p:Int} (h:Sk.score s (1 - p) - Sk.score s p - Sk.left s=lack):Sk.needed s p=max 0 ((lack+4 - 1).tdiv 4):=by subst h;rfl
theorem Fh (g:Sk.Game) (s:Sk.State) (p:Int) (w:World):Calls Tryz.prog 38 #[lX g,jE s,.int .i64 p] w fun e w'=>e= .returned (.tuple #[.int .i64 (Zz g s p),.int .i64 (Qj g s p)])∧Below w.heap.size w w':=by
 go_enter Tryz.func38,Tryz.ntmps38
 go_upto_region 0 with (fail)
 go_cut [3,4,6,7] (fun v3 v4 v6 v7 wx=>v3=ptr w.heap.size∧v4=ptr (w.heap.size+1)∧v6= .int .i64 0∧v7= .int .i64 0∧aG w wx [(bK g,23),(aC s,26)])
 case first=>
  go_wp2;go_meet;exact ⟨rfl,rfl,rfl,rfl,(((aG.nil w).new (by simp) (bK g) _).new (by simp) (aC s) _)⟩
 case rest=>
  obtain ⟨rfl,rfl,rfl,rfl,hB⟩:=hcut;have hsz:=hB.size (by simp)
  simp only [List.length_cons,List.length_nil] at hsz
  have k0:=(hB.au rfl).cell (j:=0) rfl;have k12:=(hB.get 1 rfl).cell (j:=12) rfl
  have hrG:∀ W:World,(fun w':World=>∀ p q,p<w.heap.size+2→w'.cell? ⟨p,q,none⟩=wc.cell? ⟨p,q,none⟩) W→W.rangeAt w.heap.size 0 (bK g):=fun W h j v hj=>by rw [h _ _ (by omega)];exact (hB.au rfl).range j v hj
  have yu:∀ W:World,(fun w':World=>∀ p q,p<w.heap.size+2→w'.cell? ⟨p,q,none⟩=wc.cell? ⟨p,q,none⟩) W→W.rangeAt (w.heap.size+1) 0 (aC s):=fun W h j v hj=>by rw [h _ _ (by omega)];exact (hB.get 1 rfl).range j v hj
  go_upto_region 1 with (fail)
  go_cut [8] (fun v8 wx=>v8= .int .i64 (Qj g s p)∧aG w wx [(bK g,23),(aC s,26)])
  case first=>
   have hyk:(g.kind.toList == [115,110,111,111,107,101,114])=decide (g.kind=Sk.aK):=fB _ _;have HE:=hide (show Qj g s p=fst [Sk.dh g s,jg (Sk.out p 0 1) 3,jg (!decide (g.kind=Sk.aK)) 13,jg (decide (0≤s.ay)) 20] by unfold Qj;rw [← decide_not]);obtain ⟨yk,hk2⟩:∃ y,decide (g.kind=Sk.aK)=y:=⟨_,rfl⟩;obtain ⟨yw,Vh⟩:∃ y,decide (0≤s.ay)=y:=⟨_,rfl⟩;rw [hk2] at hyk HE;rw [Vh] at HE;clear hk2;refine wp_region_held_drew (S:=(fun w':World=>∀ p q,p<w.heap.size+2→w'.cell? ⟨p,q,none⟩=wc.cell? ⟨p,q,none⟩)) (by kernel_rfl) ?bg (fun hHeld=>?_)
   case bg=>exact fun p q h=>rfl
   refine bD 0 hrG Tryz.underlying23 ?_;refine bD 1 yu Tryz.underlying26 ?_;refine aA 3 ?_;refine aA 6 ?_;refine aA 7 ?_;refine aA 8 ?_;refine aA 10 ?_;refine aA 11 ?_;refine aA 12 ?_;refine aB 2 fun K hK=>?_;go_simp
   (go_at_call 18;refine (jO g s _).mono ?_;rintro e1 w1 ⟨rfl,hb1⟩;have hb8:Below wc.heap.size wc w1:=⟨hb1.os,hb1.tape,hb1.output,hb1.size,hb1.block⟩;have hB1:=hB.drew.call (by simp) hb1)
   refine ak hK (fun p q h=>hb8.cell (p:=⟨p,q,none⟩) (Nat.lt_of_lt_of_le h hsz)) fun hHeld=>?_;clear hK K;refine aB 4 fun K hK=>?_;go_simp
   (go_at_call 66;refine (jm _ _ _ _).mono ?_;rintro e1 qK ⟨rfl,rfl⟩)
   refine ak hK (by first | exact fun p q h=>hb8.cell (p:=⟨p,q,none⟩) (Nat.lt_of_lt_of_le h hsz) | exact fun p q h=>rfl) fun hHeld=>?_;clear hK K;refine aB 5 fun K hK=>?_;go_simp
   (go_at_call 64;refine (dL _ _ _).mono ?_;rintro e1 qK ⟨rfl,rfl⟩)
   refine ak hK (by first | exact fun p q h=>hb8.cell (p:=⟨p,q,none⟩) (Nat.lt_of_lt_of_le h hsz) | exact fun p q h=>rfl) fun hHeld=>?_;clear hK K;refine aB 9 fun K hK=>?_;go_simp
   (go_at_call 64;refine (dL _ _ _).mono ?_;rintro e1 qK ⟨rfl,rfl⟩)
   refine ak hK (by first | exact fun p q h=>hb8.cell (p:=⟨p,q,none⟩) (Nat.lt_of_lt_of_le h hsz) | exact fun p q h=>rfl) fun hHeld=>?_;clear hK K;refine aB 13 fun K hK=>?_;go_simp
   (go_at_call 64;refine (dL _ _ _).mono ?_;rintro e1 qK ⟨rfl,rfl⟩)
   refine ak hK (by first | exact fun p q h=>hb8.cell (p:=⟨p,q,none⟩) (Nat.lt_of_lt_of_le h hsz) | exact fun p q h=>rfl) fun hHeld=>?_;clear hK K;refine aB 14 fun K hK=>?_;go_simp;refine ak hK (fun p q h=>(hb8.alloc hb8.size _).cell (p:=⟨p,q,none⟩) (Nat.lt_of_lt_of_le h hsz)) fun hHeld=>?_;clear hK K;refine aB 15 fun K hK=>?_;go_simp
   (go_at_call 67;refine (iK (fun _=>True) _ _ [Sk.dh g s,jg (Sk.out p 0 1) 3,jg (!yk) 13,jg yw 20] _ (nI.row _ _ [Sk.dh g s,jg (Sk.out p 0 1) 3,jg (!yk) 13,jg yw 20] (by simp) _ trivial)).mono ?_;rintro e1 qK ⟨rfl,rfl⟩)
   refine ak hK (fun p q h=>(hb8.alloc hb8.size _).cell (p:=⟨p,q,none⟩) (Nat.lt_of_lt_of_le h hsz)) fun hHeld=>?_;clear hK K;refine aA 16 ?_;refine wpAnyH_done (by kernel_rfl) ?_ _;go_wp2;go_meet;exact ⟨by rw [HE.out],hB1.alloc (by simp) _⟩
  case rest=>
   obtain ⟨rfl,hB1⟩:=hcut;clear hB k0 k12 hrG yu
   by_cases hz:Qj g s p=0
   · have hz':(Qj g s p != 0)=false:=by simp [hz]
     obtain ⟨hck,hp,hgk,hwn⟩:=Qk hz;obtain ⟨F8,CZ,_⟩:=yD hck;have ho:=Sk.kG.1 hck;have hlr:=Sk.Jy ho hgk;have h0:=ho.inr.s0;have h1:=ho.inr.s1;have hf:=hB1.get 1 rfl;have k1:=hf.cell (j:=1) rfl;have k2:=hf.cell (j:=2) rfl
     have yu:∀ W:World,(fun w':World=>∀ p q,p<w.heap.size+2→w'.cell? ⟨p,q,none⟩=wc.cell? ⟨p,q,none⟩) W→W.rangeAt (w.heap.size+1) 0 (aC s):=fun W h j v hj=>by rw [h _ _ (by omega)];exact hf.range j v hj
     have HR:=hide (show Zz g s p=Sk.needed s p by unfold Zz;rw [if_pos hz]);have HZ:=hide hz;have hsz1:=hB1.size (by simp)
     simp only [List.length_cons,List.length_nil] at hsz1
     have hcut:=And.intro trivial hB1;clear hz hck hgk ho
     rcases hp with rfl | rfl
     · have Xk:=hide (D5 s (s.s1 - s.s0 - Sk.left s) (p:=0) (by unfold Sk.score;simp))
       obtain ⟨lf,hlf⟩:∃ x,Sk.left s=x:=⟨_,rfl⟩;rw [hlf] at hlr Xk;have HLF:=hide hlf;clear hlf
       have Zb:IntKind.i64.wrap (1 - 0)=1:=by decide
       have W9:IntKind.i64.wrap 1=1:=by decide
       have w1:IntKind.i64.wrap (s.s1 - s.s0)=s.s1 - s.s0:=by rw [IntKind.wrap_i64];omega
       have w2:IntKind.i64.wrap (s.s1 - s.s0 - lf)=s.s1 - s.s0 - lf:=by rw [IntKind.wrap_i64];omega
       go_upto_region 4 with (fail)
       go_cut [9] (fun v9 wx=>v9= .int .i64 (s.s1 - s.s0 - lf)∧aG w wx [(bK g,23),(aC s,26)])
       case first=>
        have hsn:=uG s F8 CZ;rw [HLF.out] at hsn;have ZR:=hide hsn;clear hsn;refine wp_region_held_drew (S:=(fun w':World=>∀ p q,p<w.heap.size+2→w'.cell? ⟨p,q,none⟩=wc.cell? ⟨p,q,none⟩)) (by kernel_rfl) ?bV (fun hHeld=>?_)
        case bV=>exact fun p q h=>rfl
        refine aA 0 ?_;refine aA 1 ?_;refine aA 2 ?_;refine aA 3 ?_;refine aA 4 ?_;refine aA 5 ?_;refine aA 6 ?_;refine aA 7 ?_;refine aA 8 ?_;refine aA 9 ?_;refine bD 10 yu Tryz.underlying26 ?_;refine aB 11 fun K hK=>?_;go_simp
        (go_at_call 76;refine (ZR.out _).mono ?_;rintro e1 w5 ⟨rfl,hb5⟩;have hb6:Below wc.heap.size wc w5:=⟨hb5.os,hb5.tape,hb5.output,hb5.size,hb5.block⟩;have kC:=hcut.2.drew.call (by simp) hb5)
        refine ak hK (fun p q h=>hb6.cell (p:=⟨p,q,none⟩) (Nat.lt_of_lt_of_le h hsz1)) fun hHeld=>?_;clear hK K;refine aA 12 ?_;refine aA 13 ?_;refine wpAnyH_done (by kernel_rfl) ?_ _;go_wp2;go_meet;exact ⟨rfl,kC⟩
       case rest=>
        obtain ⟨rfl,hB2⟩:=hcut;obtain ⟨lk,hlk⟩:∃ x,s.s1 - s.s0 - lf=x:=⟨_,rfl⟩
        have hl1: -200000≤lk∧lk≤200000:=by omega
        rw [hlk] at Xk ⊢
        have w3:IntKind.i64.wrap (lk+4)=lk+4:=by rw [IntKind.wrap_i64];omega
        have w4:IntKind.i64.wrap (lk+4 - 1)=lk+4 - 1:=by rw [IntKind.wrap_i64];omega
        have hq1: -60000≤(lk+4 - 1).tdiv 4∧(lk+4 - 1).tdiv 4≤60000:=by
         rcases Int.le_total 0 (lk+4 - 1) with h | h
         · rw [Int.tdiv_eq_ediv_of_nonneg h];omega
         · have h2:=Int.neg_tdiv (lk+4 - 1) 4
           rw [Int.tdiv_eq_ediv_of_nonneg (by omega)] at h2;omega
        have w5:IntKind.i64.wrap ((lk+4 - 1).tdiv 4)=(lk+4 - 1).tdiv 4:=by rw [IntKind.wrap_i64];omega
        clear hlk;go_wp2
        all_goals
         go_ret2
         exact ⟨by
          have h9:=Xk.out
          (first | rw [HR.out,h9] | rw [h9])
          (try rw [HZ.out])
          first | rfl | (rw [show max (0:Int) ((lk+4 - 1).tdiv 4)=(lk+4 - 1).tdiv 4 by omega];rfl) | (rw [show max (0:Int) ((lk+4 - 1).tdiv 4)=0 by omega];rfl),hB2.bw⟩
     · have Xk:=hide (D5 s (s.s0 - s.s1 - Sk.left s) (p:=1) (by unfold Sk.score;simp))
       obtain ⟨lf,hlf⟩:∃ x,Sk.left s=x:=⟨_,rfl⟩;rw [hlf] at hlr Xk;have HLF:=hide hlf;clear hlf
       have Zb:IntKind.i64.wrap (1 - 1)=0:=by decide
       have W9:IntKind.i64.wrap 0=0:=by decide
       have w1:IntKind.i64.wrap (s.s0 - s.s1)=s.s0 - s.s1:=by rw [IntKind.wrap_i64];omega
       have w2:IntKind.i64.wrap (s.s0 - s.s1 - lf)=s.s0 - s.s1 - lf:=by rw [IntKind.wrap_i64];omega
       go_upto_region 4 with (fail)
       go_cut [9] (fun v9 wx=>v9= .int .i64 (s.s0 - s.s1 - lf)∧aG w wx [(bK g,23),(aC s,26)])
       case first=>
        have hsn:=uG s F8 CZ;rw [HLF.out] at hsn;have ZR:=hide hsn;clear hsn;refine wp_region_held_drew (S:=(fun w':World=>∀ p q,p<w.heap.size+2→w'.cell? ⟨p,q,none⟩=wc.cell? ⟨p,q,none⟩)) (by kernel_rfl) ?dJ (fun hHeld=>?_)
        case dJ=>exact fun p q h=>rfl
        refine aA 0 ?_;refine aA 1 ?_;refine aA 2 ?_;refine aA 3 ?_;refine aA 4 ?_;refine aA 5 ?_;refine aA 6 ?_;refine aA 7 ?_;refine aA 8 ?_;refine aA 9 ?_;refine bD 10 yu Tryz.underlying26 ?_;refine aB 11 fun K hK=>?_;go_simp
        (go_at_call 76;refine (ZR.out _).mono ?_;rintro e1 w5 ⟨rfl,hb5⟩;have hb6:Below wc.heap.size wc w5:=⟨hb5.os,hb5.tape,hb5.output,hb5.size,hb5.block⟩;have kC:=hcut.2.drew.call (by simp) hb5)
        refine ak hK (fun p q h=>hb6.cell (p:=⟨p,q,none⟩) (Nat.lt_of_lt_of_le h hsz1)) fun hHeld=>?_;clear hK K;refine aA 12 ?_;refine aA 13 ?_;refine wpAnyH_done (by kernel_rfl) ?_ _;go_wp2;go_meet;exact ⟨rfl,kC⟩
       case rest=>
        obtain ⟨rfl,hB2⟩:=hcut;obtain ⟨lk,hlk⟩:∃ x,s.s0 - s.s1 - lf=x:=⟨_,rfl⟩
        have hl1: -200000≤lk∧lk≤200000:=by omega
        rw [hlk] at Xk ⊢
        have w3:IntKind.i64.wrap (lk+4)=lk+4:=by rw [IntKind.wrap_i64];omega
        have w4:IntKind.i64.wrap (lk+4 - 1)=lk+4 - 1:=by rw [IntKind.wrap_i64];omega
        have hq1: -60000≤(lk+4 - 1).tdiv 4∧(lk+4 - 1).tdiv 4≤60000:=by
         rcases Int.le_total 0 (lk+4 - 1) with h | h
         · rw [Int.tdiv_eq_ediv_of_nonneg h];omega
         · have h2:=Int.neg_tdiv (lk+4 - 1) 4
           rw [Int.tdiv_eq_ediv_of_nonneg (by omega)] at h2;omega
        have w5:IntKind.i64.wrap ((lk+4 - 1).tdiv 4)=(lk+4 - 1).tdiv 4:=by rw [IntKind.wrap_i64];omega
        clear hlk;go_wp2
        all_goals
         go_ret2
         exact ⟨by
          have h9:=Xk.out
          (first | rw [HR.out,h9] | rw [h9])
          (try rw [HZ.out])
          first | rfl | (rw [show max (0:Int) ((lk+4 - 1).tdiv 4)=(lk+4 - 1).tdiv 4 by omega];rfl) | (rw [show max (0:Int) ((lk+4 - 1).tdiv 4)=0 by omega];rfl),hB2.bw⟩
   · have hz':(Qj g s p != 0)=true:=by simp [hz]
     have HR:=hide (show Zz g s p=0 by unfold Zz;rw [if_neg hz]);clear hz;go_wp2;go_ret2;exact ⟨by first | (rw [HR.out];rfl) | rfl,hB1.bw⟩
end Go.Proofs.YtjbbfmofpjflmaaGreatDoor
