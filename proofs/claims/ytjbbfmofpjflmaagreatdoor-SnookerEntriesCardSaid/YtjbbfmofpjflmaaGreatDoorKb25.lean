/- Parts of a proof. -/
import Derived.Test.YtjbbfmofpjflmaaGreatDoorKb21
set_option maxHeartbeats 2000000
set_option maxRecDepth 100000
set_option linter.unusedVariables false
set_option linter.unusedSimpArgs false
namespace Go.Proofs.YtjbbfmofpjflmaaGreatDoor
open Go.RowKit
def aS (s:Sk.State) (ph:ByteArray) (re co:Int) (fo:Bool) (wi:Int):Sk.State:=⟨s.turn,s.s0,s.s1,s.brk,ph,re,co,s.free,fo,s.aP,s.t0,s.t1,wi⟩
theorem E8 (s:Sk.State) (e:Sk.Entry) (v:Sk.fF) (r:Int) (yt:Bool) (hpf:s.phase=Sk.dG) (hr:s.bI - Sk.count e.aV Sk.dw=r) (hy:(decide (v.gB=0∧Sk.has e.aV (Sk.gQ s.colour)=true))=yt):Sk.dB s e v=(if s.colour<7 then (if yt=true then (aS s s.phase r (s.colour+1) s.aT s.aB) else (aS s s.phase r s.colour s.aT s.aB)) else if v.gB=0∧yt=false then (aS s s.phase r s.colour s.aT s.aB) else if Sk.leader (aS s s.phase r s.colour s.aT s.aB)<2 then (aS s s.phase r s.colour false (Sk.leader (aS s s.phase r s.colour s.aT s.aB))) else if yt=true then Sk.pass (aS s s.phase r s.colour s.aT s.aB) else (aS s s.phase r s.colour s.aT s.aB)):=by
 unfold Sk.dB
 rw [if_neg (by simpa using hpf)]
 simp only [hr,hy]
 rfl
theorem yF (S:Nat→Prop) (g:Sk.Game) (s:Sk.State) (e:En) (v:Sk.fF) (w:World) (ht:s.turn=0∨s.turn=1) (hc:0≤s.colour∧s.colour≤7) (hre:0≤s.bI∧s.bI≤15) (he:iW w S e):Calls Tryz.prog 112 #[lZ g,kW s,wF e,RH v] w fun e_ w'=>e_= .returned (kW (Sk.dB s e.x v))∧Below w.heap.size w w':=by
 obtain ⟨p4,p5,p6⟩:=he.aV.bd;have hcb:=CS e.x.aV Sk.dw
 go_enter Tryz.func112,Tryz.ntmps112
 go_upto_region 0 with (fail)
 go_cut [4,5,6,7,8] (fun v4 v5 v6 v7 v8 wx=>v4=ptr w.heap.size∧v5=ptr (w.heap.size+1)∧v6=ptr (w.heap.size+2)∧v7=ptr (w.heap.size+3)∧v8=ptr (w.heap.size+4)∧aJ w wx [(bT g,23),(aO s,26),(dU e,83),(fG v,78),(aO Sk.zero,26)])
 case first=>
  go_wp2;go_meet;exact ⟨rfl,rfl,rfl,rfl,rfl,((((((aJ.nil w).new (by simp) (bT g) _).new (by simp) (aO s) _).new (by simp) (dU e) _).new (by simp) (fG v) _).new (by simp) (aO Sk.zero) _)⟩
 case rest=>
  obtain ⟨rfl,rfl,rfl,rfl,rfl,hB⟩:=hcut;have hpo:=he.aV.below hB.bw;have x3:=(hB.get 2 rfl).cell (j:=3) rfl;have s5:=(hB.get 1 rfl).cell (j:=5) rfl;have s5f:=(hB.get 1 rfl).frozen 5
  go_upto_region 1 with (fail)
  go_cut [] (fun wx=>aJ w wx [(bT g,23),(aO (aS s s.phase (s.bI - Sk.count e.x.aV Sk.dw) s.colour s.aT s.aB),26),(dU e,83),(fG v,78),(aO Sk.zero,26)])
  case first=>
   have hwr:IntKind.i64.wrap (s.bI - Sk.count e.x.aV Sk.dw)=s.bI - Sk.count e.x.aV Sk.dw:=by rw [IntKind.wrap_i64];omega
   have hE:aJ w ((wc.drewN 1).setCell ⟨w.heap.size+1,5,none⟩ (.int .i64 (s.bI - Sk.count e.x.aV Sk.dw))) [(bT g,23),(aO (aS s s.phase (s.bI - Sk.count e.x.aV Sk.dw) s.colour s.aT s.aB),26),(dU e,83),(fG v,78),(aO Sk.zero,26)]:=(hB.drewN 1).set 1 rfl 5 _;refine wp_region_held_drew (S:=(fun w':World=>w'.cell? ⟨w.heap.size+2,3,none⟩=wc.cell? ⟨w.heap.size+2,3,none⟩)) (by kernel_rfl) ?bW (fun hHeld=>?_)
   case bW=>exact rfl
   refine aF 0 ?_;refine aF 2 ?_;refine aF 3 ?_;refine iF 1 4 (fun K hK=>?_) fun K hK=>?_
   · go_simp
     refine ay hK (rfl) fun hHeld=>?_;clear hK K;refine aG 4 fun K hK=>?_;go_simp
     (go_at_call 168;refine (iK S e.B e.b e.x.aV Sk.dw _ (hpo.drewN 1)).mono ?_;rintro e1 w9 ⟨rfl,rfl⟩)
     refine ay hK (rfl) fun hHeld=>?_;clear hK K;refine aF 5 ?_;refine aF 6 ?_;refine aG 7 fun K hK=>?_;go_simp;refine ay hK ((World.cell?_setCell_other _ _ _ _ (by intro h;simp at h))) fun hHeld=>?_;clear hK K;refine wpAnyH_done (by kernel_rfl) ?_ _;go_wp2;go_meet;exact hE
   · go_simp
     (go_at_call 168;refine (iK S e.B e.b e.x.aV Sk.dw _ (hpo.drewN 1)).mono ?_;rintro e1 w9 ⟨rfl,rfl⟩)
     refine ay hK (rfl) fun hHeld=>?_;clear hK K;refine aG 1 fun K hK=>?_;go_simp;refine ay hK (rfl) fun hHeld=>?_;clear hK K;refine aF 5 ?_;refine aF 6 ?_;refine aG 7 fun K hK=>?_;go_simp;refine ay hK ((World.cell?_setCell_other _ _ _ _ (by intro h;simp at h))) fun hHeld=>?_;clear hK K;refine wpAnyH_done (by kernel_rfl) ?_ _;go_wp2;go_meet;exact hE
  case rest=>
   obtain ⟨r,hr⟩:∃ r,s.bI - Sk.count e.x.aV Sk.dw=r:=⟨_,rfl⟩;rw [hr] at hcut;have HR:=hide hr;have hB:=hcut;clear hcut x3 s5 s5f hpo;have s4:_=some (Value.string s.phase):=(hB.get 1 rfl).cell (j:=4) rfl;have s4f:=(hB.get 1 rfl).frozen 4;have s5:_=some (Value.int .i64 r):=(hB.get 1 rfl).cell (j:=5) rfl;have s6:_=some (Value.int .i64 s.colour):=(hB.get 1 rfl).cell (j:=6) rfl;have s6f:=(hB.get 1 rfl).frozen 6;have u3:=(hB.get 3 rfl).cell (j:=3) rfl;have u1:=(hB.get 3 rfl).cell (j:=1) rfl;clear hr
   by_cases hpf:s.phase=Sk.dG
   · have hsz:=hB.size (by simp)
     simp only [List.length_cons,List.length_nil] at hsz
     have x3:=(hB.get 2 rfl).cell (j:=3) rfl;obtain ⟨n,hn⟩:∃ n:Nat,s.colour=n:=⟨s.colour.toNat,by omega⟩
     have YA:n<8:=by omega
     have hix:=fun W=>FQ n YA W
     have hbl:Sk.gQ s.colour=Sk.cO[n]'YA:=by unfold Sk.gQ;rw [hn,Int.toNat_natCast,List.getD_eq_getElem?_getD,List.getElem?_eq_getElem (show n<Sk.cO.length from YA)];rfl
     obtain ⟨b,hb⟩:∃ b,Sk.cO[n]'YA=b:=⟨_,rfl⟩
     simp only [hb] at hix hbl
     have hhp:=fun W (hb:Below w.heap.size w W)=>gV S e.B e.b e.x.aV b W (he.aV.below hb);obtain ⟨yp,hyp⟩:∃ y,Sk.has e.x.aV b=y:=⟨_,rfl⟩
     simp only [hyp] at hhp
     have HHP:=hide hhp;obtain ⟨yt,Nk⟩:∃ y,decide (v.gB=0∧Sk.has e.x.aV (Sk.gQ s.colour)=true)=y:=⟨_,rfl⟩;have V7:=hide (E8 s e.x v r yt hpf HR.out Nk);rw [hbl,hyp] at Nk;have HYT:=hide Nk;have HN:=hide hn;clear hhp hyp Nk hb hbl;have OQ:=wt hpf
     have ajT:(s.phase.toList != [102,105,110,97,108])=false:=by rw [bne,OQ];rfl
     clear hpf
     go_upto_region 9 with (fail)
     go_cut [9] (fun v9 wx=>v9= .bool yt∧aJ w wx [(bT g,23),(aO (aS s s.phase r s.colour s.aT s.aB),26),(dU e,83),(fG v,78),(aO Sk.zero,26)])
     case first=>
      rw [hn] at s6
      by_cases hf:v.gB=0
      · have hf1:(v.gB == 0)=true:=by simp [hf]
        have HF:=hide hf;clear hf;refine wp_region_held_drew (S:=(fun w':World=>∀ p q,p<w.heap.size+5→w'.cell? ⟨p,q,none⟩=wc.cell? ⟨p,q,none⟩)) (by kernel_rfl) ?dI (fun hHeld=>?_)
        case dI=>exact fun p q h=>rfl
        refine aF 0 ?_;refine aF 1 ?_;refine aF 2 ?_;refine aF 3 ?_;refine aF 4 ?_;refine aF 5 ?_;refine aF 7 ?_;refine aF 8 ?_;refine aG 6 fun K hK=>?_;go_simp
        (go_at_call 94;refine (pK _).mono ?_;rintro e1 w1 ⟨rfl,hb1⟩;have hB1:=hB.drew.call (by simp) hb1;have hb8:Below wc.heap.size wc w1:=⟨hb1.os,hb1.tape,hb1.output,hb1.size,hb1.block⟩)
        refine ay hK (fun p q h=>hb8.cell (p:=⟨p,q,none⟩) (Nat.lt_of_lt_of_le h hsz)) fun hHeld=>?_;clear hK K;refine aF 9 ?_;refine aG 10 fun K hK=>?_;go_simp
        (go_at_call 68;refine (HHP.out _ hB1.bw).mono ?_;rintro e1 w9 ⟨rfl,rfl⟩)
        refine ay hK (fun p q h=>hb8.cell (p:=⟨p,q,none⟩) (Nat.lt_of_lt_of_le h hsz)) fun hHeld=>?_;clear hK K;refine aF 11 ?_;refine aF 12 ?_;refine wpAnyH_done (by kernel_rfl) ?_ _;go_wp2;go_meet;exact ⟨dP (by have h:=HYT.out;rw [← h];simp [HF.out]),hB1⟩
      · have hf1:(v.gB == 0)=false:=by simp [hf]
        have HF:=hide hf;clear hf;refine wp_region_held_drew (S:=(fun w':World=>∀ p q,p<w.heap.size+5→w'.cell? ⟨p,q,none⟩=wc.cell? ⟨p,q,none⟩)) (by kernel_rfl) ?dS (fun hHeld=>?_)
        case dS=>exact fun p q h=>rfl
        refine aF 0 ?_;refine aF 1 ?_;refine aF 2 ?_;refine aF 3 ?_;refine iC 4 ?_;refine iC 5 ?_;refine iC 6 ?_;refine iC 7 ?_;refine iC 8 ?_;refine iC 9 ?_;refine iC 10 ?_;refine aF 11 ?_;refine aF 12 ?_;refine wpAnyH_done (by kernel_rfl) ?_ _;go_wp2;go_meet;exact ⟨dP (by have h:=HYT.out;rw [← h];simp [HF.out]),hB.drew⟩
     case rest=>
      obtain ⟨rfl,hB1⟩:=hcut;have hB:=hB1;clear hB1 hix x3 hsz s4 s4f s5 s6 s6f u1 u3 hn;have s6:_=some (Value.int .i64 s.colour):=(hB.get 1 rfl).cell (j:=6) rfl;have s6f:=(hB.get 1 rfl).frozen 6;have u1:=(hB.get 3 rfl).cell (j:=1) rfl
      by_cases h7:s.colour<7
      · have h71:decide (s.colour<7)=true:=decide_eq_true h7
        cases yt
        · have HM:=hide (show Sk.dB s e.x v=(aS s s.phase r s.colour s.aT s.aB) by rw [V7.out];rw [if_pos h7];rfl)
          clear h7
          go_wp2_with (first | ((with_reducible (refine ah 26 (.tmp 5) ?lx ?_));(case lx=>rfl);refine au (hB.get 1 rfl) Tryz.underlying26 rfl ak rfl (.tmp 5) rfl rfl ?_) | ((with_reducible (refine aH 26 (.tmp 8) (.tmp 58) ?lx ?_));(case lx=>rfl);refine aC (hB.get 4 rfl) (aO (aS s s.phase r s.colour s.aT s.aB)) rfl ak (bH _) rfl (.tmp 8) (.tmp 58) rfl rfl rfl ?_))
          have hZ:=hB.put 4 rfl (aO (aS s s.phase r s.colour s.aT s.aB)) rfl;refine bodyPost_ret (aX (p:=8) (hZ.get 4 rfl) Tryz.underlying26 rfl ak rfl _ rfl) rfl ⟨?_,hZ.bw⟩;rw [HM.out];rfl
        · have HM:=hide (show Sk.dB s e.x v=(aS s s.phase r (s.colour+1) s.aT s.aB) by rw [V7.out];rw [if_pos h7];rfl)
          have hE:aJ w (wc.setCell ⟨w.heap.size+1,6,none⟩ (.int .i64 (s.colour+1))) [(bT g,23),(aO (aS s s.phase r (s.colour+1) s.aT s.aB),26),(dU e,83),(fG v,78),(aO Sk.zero,26)]:=hB.set 1 rfl 6 _;clear h7
          go_wp2_with (first | ((with_reducible (refine ah 26 (.tmp 5) ?lx ?_));(case lx=>rfl);refine au (hE.get 1 rfl) Tryz.underlying26 rfl ak rfl (.tmp 5) rfl rfl ?_) | ((with_reducible (refine aH 26 (.tmp 8) (.tmp 58) ?lx ?_));(case lx=>rfl);refine aC (hE.get 4 rfl) (aO (aS s s.phase r (s.colour+1) s.aT s.aB)) rfl ak (bH _) rfl (.tmp 8) (.tmp 58) rfl rfl rfl ?_))
          have hZ:=hE.put 4 rfl (aO (aS s s.phase r (s.colour+1) s.aT s.aB)) rfl;refine bodyPost_ret (aX (p:=8) (hZ.get 4 rfl) Tryz.underlying26 rfl ak rfl _ rfl) rfl ⟨?_,hZ.bw⟩;rw [HM.out];rfl
      · have h71:decide (s.colour<7)=false:=decide_eq_false h7
        by_cases hf:v.gB=0
        · have hf1:(v.gB == 0)=true:=by simp [hf]
          cases yt
          · have HM:=hide (show Sk.dB s e.x v=(aS s s.phase r s.colour s.aT s.aB) by rw [V7.out];rw [if_neg h7,if_pos ⟨hf,rfl⟩])
            clear h7 hf
            go_wp2_with (first | ((with_reducible (refine ah 26 (.tmp 5) ?lx ?_));(case lx=>rfl);refine au (hB.get 1 rfl) Tryz.underlying26 rfl ak rfl (.tmp 5) rfl rfl ?_) | ((with_reducible (refine aH 26 (.tmp 8) (.tmp 66) ?lx ?_));(case lx=>rfl);refine aC (hB.get 4 rfl) (aO (aS s s.phase r s.colour s.aT s.aB)) rfl ak (bH _) rfl (.tmp 8) (.tmp 66) rfl rfl rfl ?_))
            have hZ:=hB.put 4 rfl (aO (aS s s.phase r s.colour s.aT s.aB)) rfl;refine bodyPost_ret (aX (p:=8) (hZ.get 4 rfl) Tryz.underlying26 rfl ak rfl _ rfl) rfl ⟨?_,hZ.bw⟩;rw [HM.out];rfl
          · have Nv:=hide (show ¬ (v.gB=0∧true=false) by simp)
            clear hf
            by_cases hl:Sk.leader (aS s s.phase r s.colour s.aT s.aB)<2
            · have hl1:decide (Sk.leader (aS s s.phase r s.colour s.aT s.aB)<2)=true:=decide_eq_true hl
              have HM:=hide (show Sk.dB s e.x v=(aS s s.phase r s.colour false (Sk.leader (aS s s.phase r s.colour s.aT s.aB))) by rw [V7.out];rw [if_neg h7,if_neg Nv.out,if_pos hl]);have HL:=hide hl;clear hl h7
              go_wp2_with (first | ((with_reducible (refine ah 26 (.tmp 5) ?lx ?_));(case lx=>rfl);refine au (hE.get 1 rfl) Tryz.underlying26 rfl ak rfl (.tmp 5) rfl rfl ?_) | ((with_reducible (refine ah 26 (.tmp 5) ?lx ?_));(case lx=>rfl);refine au (hB.get 1 rfl) Tryz.underlying26 rfl ak rfl (.tmp 5) rfl rfl ?_) | (go_at_call 173;refine (gU (aS s s.phase r s.colour s.aT s.aB) _).mono ?_;rintro e1 w5 ⟨rfl,hb5⟩;have hB:=hB.call (by simp) hb5;have q12:=(hB.get 1 rfl).cell (j:=12) rfl;have XE:=(hB.get 1 rfl).frozen 12;have q8:=(hB.get 1 rfl).cell (j:=8) rfl;have q8f:=(hB.get 1 rfl).frozen 8;have hE1:aJ w (w5.setCell ⟨w.heap.size+1,12,none⟩ (.int .i64 (Sk.leader (aS s s.phase r s.colour s.aT s.aB)))) [(bT g,23),(aO (aS s s.phase r s.colour s.aT (Sk.leader (aS s s.phase r s.colour s.aT s.aB))),26),(dU e,83),(fG v,78),(aO Sk.zero,26)]:=hB.set 1 rfl 12 _;have hE:aJ w ((w5.setCell ⟨w.heap.size+1,12,none⟩ (.int .i64 (Sk.leader (aS s s.phase r s.colour s.aT s.aB)))).setCell ⟨w.heap.size+1,8,none⟩ (.bool false)) [(bT g,23),(aO (aS s s.phase r s.colour false (Sk.leader (aS s s.phase r s.colour s.aT s.aB))),26),(dU e,83),(fG v,78),(aO Sk.zero,26)]:=hE1.set 1 rfl 8 _) | ((with_reducible (refine aH 26 (.tmp 8) (.tmp 74) ?lx ?_));(case lx=>rfl);refine aC (hE.get 4 rfl) (aO (aS s s.phase r s.colour false (Sk.leader (aS s s.phase r s.colour s.aT s.aB)))) rfl ak (bH _) rfl (.tmp 8) (.tmp 74) rfl rfl rfl ?_))
              have hZ:=hE.put 4 rfl (aO (aS s s.phase r s.colour false (Sk.leader (aS s s.phase r s.colour s.aT s.aB)))) rfl;refine bodyPost_ret (aX (p:=8) (hZ.get 4 rfl) Tryz.underlying26 rfl ak rfl _ rfl) rfl ⟨?_,hZ.bw⟩;rw [HM.out];rfl
            · have hl1:decide (Sk.leader (aS s s.phase r s.colour s.aT s.aB)<2)=false:=decide_eq_false hl
              have HM:=hide (show Sk.dB s e.x v=(Sk.pass (aS s s.phase r s.colour s.aT s.aB)) by rw [V7.out];rw [if_neg h7,if_neg Nv.out,if_neg hl];rfl);have HL:=hide hl;clear hl h7
              go_wp2_with (first | ((with_reducible (refine ah 26 (.tmp 5) ?lx ?_));(case lx=>rfl);refine au (hB.get 1 rfl) Tryz.underlying26 rfl ak rfl (.tmp 5) rfl rfl ?_) | (go_at_call 173;refine (gU (aS s s.phase r s.colour s.aT s.aB) _).mono ?_;rintro e1 w5 ⟨rfl,hb5⟩;have hB:=hB.call (by simp) hb5;have q12:=(hB.get 1 rfl).cell (j:=12) rfl;have XE:=(hB.get 1 rfl).frozen 12;have q8:=(hB.get 1 rfl).cell (j:=8) rfl;have q8f:=(hB.get 1 rfl).frozen 8;have hE1:aJ w (w5.setCell ⟨w.heap.size+1,12,none⟩ (.int .i64 (Sk.leader (aS s s.phase r s.colour s.aT s.aB)))) [(bT g,23),(aO (aS s s.phase r s.colour s.aT (Sk.leader (aS s s.phase r s.colour s.aT s.aB))),26),(dU e,83),(fG v,78),(aO Sk.zero,26)]:=hB.set 1 rfl 12 _;have hE:aJ w ((w5.setCell ⟨w.heap.size+1,12,none⟩ (.int .i64 (Sk.leader (aS s s.phase r s.colour s.aT s.aB)))).setCell ⟨w.heap.size+1,8,none⟩ (.bool false)) [(bT g,23),(aO (aS s s.phase r s.colour false (Sk.leader (aS s s.phase r s.colour s.aT s.aB))),26),(dU e,83),(fG v,78),(aO Sk.zero,26)]:=hE1.set 1 rfl 8 _) | (go_at_call 140;refine (nK (aS s s.phase r s.colour s.aT s.aB) ht _).mono ?_;rintro e1 w6 ⟨rfl,hb6⟩;have hB:=hB.call (by simp) hb6) | ((with_reducible (refine aH 26 (.tmp 8) (.tmp 77) ?lx ?_));(case lx=>rfl);refine aC (hB.get 4 rfl) (aO (Sk.pass (aS s s.phase r s.colour s.aT s.aB))) rfl ak (bH _) rfl (.tmp 8) (.tmp 77) rfl rfl rfl ?_))
              have hZ:=hB.put 4 rfl (aO (Sk.pass (aS s s.phase r s.colour s.aT s.aB))) rfl;refine bodyPost_ret (aX (p:=8) (hZ.get 4 rfl) Tryz.underlying26 rfl ak rfl _ rfl) rfl ⟨?_,hZ.bw⟩;rw [HM.out];rfl
        · have hf1:(v.gB == 0)=false:=by simp [hf]
          cases yt
          · have Nv:=hide (show ¬ (v.gB=0∧false=false) by simp [hf])
            clear hf
            by_cases hl:Sk.leader (aS s s.phase r s.colour s.aT s.aB)<2
            · have hl1:decide (Sk.leader (aS s s.phase r s.colour s.aT s.aB)<2)=true:=decide_eq_true hl
              have HM:=hide (show Sk.dB s e.x v=(aS s s.phase r s.colour false (Sk.leader (aS s s.phase r s.colour s.aT s.aB))) by rw [V7.out];rw [if_neg h7,if_neg Nv.out,if_pos hl]);have HL:=hide hl;clear hl h7
              go_wp2_with (first | ((with_reducible (refine ah 26 (.tmp 5) ?lx ?_));(case lx=>rfl);refine au (hE.get 1 rfl) Tryz.underlying26 rfl ak rfl (.tmp 5) rfl rfl ?_) | ((with_reducible (refine ah 26 (.tmp 5) ?lx ?_));(case lx=>rfl);refine au (hB.get 1 rfl) Tryz.underlying26 rfl ak rfl (.tmp 5) rfl rfl ?_) | (go_at_call 173;refine (gU (aS s s.phase r s.colour s.aT s.aB) _).mono ?_;rintro e1 w5 ⟨rfl,hb5⟩;have hB:=hB.call (by simp) hb5;have q12:=(hB.get 1 rfl).cell (j:=12) rfl;have XE:=(hB.get 1 rfl).frozen 12;have q8:=(hB.get 1 rfl).cell (j:=8) rfl;have q8f:=(hB.get 1 rfl).frozen 8;have hE1:aJ w (w5.setCell ⟨w.heap.size+1,12,none⟩ (.int .i64 (Sk.leader (aS s s.phase r s.colour s.aT s.aB)))) [(bT g,23),(aO (aS s s.phase r s.colour s.aT (Sk.leader (aS s s.phase r s.colour s.aT s.aB))),26),(dU e,83),(fG v,78),(aO Sk.zero,26)]:=hB.set 1 rfl 12 _;have hE:aJ w ((w5.setCell ⟨w.heap.size+1,12,none⟩ (.int .i64 (Sk.leader (aS s s.phase r s.colour s.aT s.aB)))).setCell ⟨w.heap.size+1,8,none⟩ (.bool false)) [(bT g,23),(aO (aS s s.phase r s.colour false (Sk.leader (aS s s.phase r s.colour s.aT s.aB))),26),(dU e,83),(fG v,78),(aO Sk.zero,26)]:=hE1.set 1 rfl 8 _) | ((with_reducible (refine aH 26 (.tmp 8) (.tmp 74) ?lx ?_));(case lx=>rfl);refine aC (hE.get 4 rfl) (aO (aS s s.phase r s.colour false (Sk.leader (aS s s.phase r s.colour s.aT s.aB)))) rfl ak (bH _) rfl (.tmp 8) (.tmp 74) rfl rfl rfl ?_))
              have hZ:=hE.put 4 rfl (aO (aS s s.phase r s.colour false (Sk.leader (aS s s.phase r s.colour s.aT s.aB)))) rfl;refine bodyPost_ret (aX (p:=8) (hZ.get 4 rfl) Tryz.underlying26 rfl ak rfl _ rfl) rfl ⟨?_,hZ.bw⟩;rw [HM.out];rfl
            · have hl1:decide (Sk.leader (aS s s.phase r s.colour s.aT s.aB)<2)=false:=decide_eq_false hl
              have HM:=hide (show Sk.dB s e.x v=(aS s s.phase r s.colour s.aT s.aB) by rw [V7.out];rw [if_neg h7,if_neg Nv.out,if_neg hl];rfl);have HL:=hide hl;clear hl h7
              go_wp2_with (first | ((with_reducible (refine ah 26 (.tmp 5) ?lx ?_));(case lx=>rfl);refine au (hB.get 1 rfl) Tryz.underlying26 rfl ak rfl (.tmp 5) rfl rfl ?_) | (go_at_call 173;refine (gU (aS s s.phase r s.colour s.aT s.aB) _).mono ?_;rintro e1 w5 ⟨rfl,hb5⟩;have hB:=hB.call (by simp) hb5;have q12:=(hB.get 1 rfl).cell (j:=12) rfl;have XE:=(hB.get 1 rfl).frozen 12;have q8:=(hB.get 1 rfl).cell (j:=8) rfl;have q8f:=(hB.get 1 rfl).frozen 8;have hE1:aJ w (w5.setCell ⟨w.heap.size+1,12,none⟩ (.int .i64 (Sk.leader (aS s s.phase r s.colour s.aT s.aB)))) [(bT g,23),(aO (aS s s.phase r s.colour s.aT (Sk.leader (aS s s.phase r s.colour s.aT s.aB))),26),(dU e,83),(fG v,78),(aO Sk.zero,26)]:=hB.set 1 rfl 12 _;have hE:aJ w ((w5.setCell ⟨w.heap.size+1,12,none⟩ (.int .i64 (Sk.leader (aS s s.phase r s.colour s.aT s.aB)))).setCell ⟨w.heap.size+1,8,none⟩ (.bool false)) [(bT g,23),(aO (aS s s.phase r s.colour false (Sk.leader (aS s s.phase r s.colour s.aT s.aB))),26),(dU e,83),(fG v,78),(aO Sk.zero,26)]:=hE1.set 1 rfl 8 _) | ((with_reducible (refine aH 26 (.tmp 8) (.tmp 78) ?lx ?_));(case lx=>rfl);refine aC (hB.get 4 rfl) (aO (aS s s.phase r s.colour s.aT s.aB)) rfl ak (bH _) rfl (.tmp 8) (.tmp 78) rfl rfl rfl ?_))
              have hZ:=hB.put 4 rfl (aO (aS s s.phase r s.colour s.aT s.aB)) rfl;refine bodyPost_ret (aX (p:=8) (hZ.get 4 rfl) Tryz.underlying26 rfl ak rfl _ rfl) rfl ⟨?_,hZ.bw⟩;rw [HM.out];rfl
          · exfalso;have h:=HYT.out;simp [hf] at h
   · have hp:s.phase≠Sk.dG:=hpf
     have OQ:=wf hpf
     have ajT:(s.phase.toList != [102,105,110,97,108])=true:=by rw [bne,OQ];rfl
     have hr:=HR.out;clear hpf
     by_cases hpr:s.phase=Sk.iI
     · have aj0:=wt hpr
       rcases Bool.eq_false_or_eq_true v.stays with hst | hst
       · rw [hst] at u3
         have HM:=hide (show Sk.dB s e.x v=(aS s Sk.dW r s.colour s.aT s.aB) by unfold Sk.dB;rw [if_pos hp];rw [if_pos ⟨hpr,hst⟩,hr];rfl);have hE:aJ w (wc.setCell ⟨w.heap.size+1,4,none⟩ (.string Sk.dW)) [(bT g,23),(aO (aS s Sk.dW r s.colour s.aT s.aB),26),(dU e,83),(fG v,78),(aO Sk.zero,26)]:=hB.set 1 rfl 4 _;clear hp hpr hst
         go_wp2_with (first | ((with_reducible (refine ah 26 (.tmp 5) ?lx ?_));(case lx=>rfl);refine au (hE.get 1 rfl) Tryz.underlying26 rfl ak rfl (.tmp 5) rfl rfl ?_) | ((with_reducible (refine aH 26 (.tmp 8) (.tmp 37) ?lx ?_));(case lx=>rfl);refine aC (hE.get 4 rfl) (aO (aS s Sk.dW r s.colour s.aT s.aB)) rfl ak (bH _) rfl (.tmp 8) (.tmp 37) rfl rfl rfl ?_))
         have hZ:=hE.put 4 rfl (aO (aS s Sk.dW r s.colour s.aT s.aB)) rfl;refine bodyPost_ret (aX (p:=8) (hZ.get 4 rfl) Tryz.underlying26 rfl ak rfl _ rfl) rfl ⟨?_,hZ.bw⟩;rw [HM.out];rfl
       · have SG:=hide (show ¬ (s.phase=Sk.iI∧v.stays=true) by rw [hst];simp)
         rw [hst] at u3;clear hst hpr
         by_cases h0:0<r
         · have h01:decide (0<r)=true:=decide_eq_true h0
           have HM:=hide (show Sk.dB s e.x v=(aS s Sk.iI r s.colour s.aT s.aB) by unfold Sk.dB;rw [if_pos hp];rw [if_neg SG.out,hr,if_pos h0];rfl);have hE:aJ w (wc.setCell ⟨w.heap.size+1,4,none⟩ (.string Sk.iI)) [(bT g,23),(aO (aS s Sk.iI r s.colour s.aT s.aB),26),(dU e,83),(fG v,78),(aO Sk.zero,26)]:=hB.set 1 rfl 4 _;clear hp SG h0
           go_wp2_with (first | ((with_reducible (refine ah 26 (.tmp 5) ?lx ?_));(case lx=>rfl);refine au (hE.get 1 rfl) Tryz.underlying26 rfl ak rfl (.tmp 5) rfl rfl ?_) | ((with_reducible (refine aH 26 (.tmp 8) (.tmp 37) ?lx ?_));(case lx=>rfl);refine aC (hE.get 4 rfl) (aO (aS s Sk.iI r s.colour s.aT s.aB)) rfl ak (bH _) rfl (.tmp 8) (.tmp 37) rfl rfl rfl ?_))
           have hZ:=hE.put 4 rfl (aO (aS s Sk.iI r s.colour s.aT s.aB)) rfl;refine bodyPost_ret (aX (p:=8) (hZ.get 4 rfl) Tryz.underlying26 rfl ak rfl _ rfl) rfl ⟨?_,hZ.bw⟩;rw [HM.out];rfl
         · have h01:decide (0<r)=false:=decide_eq_false h0
           have HM:=hide (show Sk.dB s e.x v=(aS s Sk.dG r 2 s.aT s.aB) by unfold Sk.dB;rw [if_pos hp];rw [if_neg SG.out,hr,if_neg h0];rfl);have hE1:aJ w (wc.setCell ⟨w.heap.size+1,4,none⟩ (.string Sk.dG)) [(bT g,23),(aO (aS s Sk.dG r s.colour s.aT s.aB),26),(dU e,83),(fG v,78),(aO Sk.zero,26)]:=hB.set 1 rfl 4 _;have hE:aJ w ((wc.setCell ⟨w.heap.size+1,4,none⟩ (.string Sk.dG)).setCell ⟨w.heap.size+1,6,none⟩ (.int .i64 2)) [(bT g,23),(aO (aS s Sk.dG r 2 s.aT s.aB),26),(dU e,83),(fG v,78),(aO Sk.zero,26)]:=hE1.set 1 rfl 6 _;clear hp SG h0
           go_wp2_with (first | ((with_reducible (refine ah 26 (.tmp 5) ?lx ?_));(case lx=>rfl);refine au (hE.get 1 rfl) Tryz.underlying26 rfl ak rfl (.tmp 5) rfl rfl ?_) | ((with_reducible (refine aH 26 (.tmp 8) (.tmp 37) ?lx ?_));(case lx=>rfl);refine aC (hE.get 4 rfl) (aO (aS s Sk.dG r 2 s.aT s.aB)) rfl ak (bH _) rfl (.tmp 8) (.tmp 37) rfl rfl rfl ?_))
           have hZ:=hE.put 4 rfl (aO (aS s Sk.dG r 2 s.aT s.aB)) rfl;refine bodyPost_ret (aX (p:=8) (hZ.get 4 rfl) Tryz.underlying26 rfl ak rfl _ rfl) rfl ⟨?_,hZ.bw⟩;rw [HM.out];rfl
     · have aj0:=wf hpr
       have SG:=hide (show ¬ (s.phase=Sk.iI∧v.stays=true) by rintro ⟨h,_⟩;exact hpr h);clear hpr
       by_cases h0:0<r
       · have h01:decide (0<r)=true:=decide_eq_true h0
         have HM:=hide (show Sk.dB s e.x v=(aS s Sk.iI r s.colour s.aT s.aB) by unfold Sk.dB;rw [if_pos hp];rw [if_neg SG.out,hr,if_pos h0];rfl);have hE:aJ w (wc.setCell ⟨w.heap.size+1,4,none⟩ (.string Sk.iI)) [(bT g,23),(aO (aS s Sk.iI r s.colour s.aT s.aB),26),(dU e,83),(fG v,78),(aO Sk.zero,26)]:=hB.set 1 rfl 4 _;clear hp SG h0
         go_wp2_with (first | ((with_reducible (refine ah 26 (.tmp 5) ?lx ?_));(case lx=>rfl);refine au (hE.get 1 rfl) Tryz.underlying26 rfl ak rfl (.tmp 5) rfl rfl ?_) | ((with_reducible (refine aH 26 (.tmp 8) (.tmp 37) ?lx ?_));(case lx=>rfl);refine aC (hE.get 4 rfl) (aO (aS s Sk.iI r s.colour s.aT s.aB)) rfl ak (bH _) rfl (.tmp 8) (.tmp 37) rfl rfl rfl ?_))
         have hZ:=hE.put 4 rfl (aO (aS s Sk.iI r s.colour s.aT s.aB)) rfl;refine bodyPost_ret (aX (p:=8) (hZ.get 4 rfl) Tryz.underlying26 rfl ak rfl _ rfl) rfl ⟨?_,hZ.bw⟩;rw [HM.out];rfl
       · have h01:decide (0<r)=false:=decide_eq_false h0
         have HM:=hide (show Sk.dB s e.x v=(aS s Sk.dG r 2 s.aT s.aB) by unfold Sk.dB;rw [if_pos hp];rw [if_neg SG.out,hr,if_neg h0];rfl);have hE1:aJ w (wc.setCell ⟨w.heap.size+1,4,none⟩ (.string Sk.dG)) [(bT g,23),(aO (aS s Sk.dG r s.colour s.aT s.aB),26),(dU e,83),(fG v,78),(aO Sk.zero,26)]:=hB.set 1 rfl 4 _;have hE:aJ w ((wc.setCell ⟨w.heap.size+1,4,none⟩ (.string Sk.dG)).setCell ⟨w.heap.size+1,6,none⟩ (.int .i64 2)) [(bT g,23),(aO (aS s Sk.dG r 2 s.aT s.aB),26),(dU e,83),(fG v,78),(aO Sk.zero,26)]:=hE1.set 1 rfl 6 _;clear hp SG h0
         go_wp2_with (first | ((with_reducible (refine ah 26 (.tmp 5) ?lx ?_));(case lx=>rfl);refine au (hE.get 1 rfl) Tryz.underlying26 rfl ak rfl (.tmp 5) rfl rfl ?_) | ((with_reducible (refine aH 26 (.tmp 8) (.tmp 37) ?lx ?_));(case lx=>rfl);refine aC (hE.get 4 rfl) (aO (aS s Sk.dG r 2 s.aT s.aB)) rfl ak (bH _) rfl (.tmp 8) (.tmp 37) rfl rfl rfl ?_))
         have hZ:=hE.put 4 rfl (aO (aS s Sk.dG r 2 s.aT s.aB)) rfl;refine bodyPost_ret (aX (p:=8) (hZ.get 4 rfl) Tryz.underlying26 rfl ak rfl _ rfl) rfl ⟨?_,hZ.bw⟩;rw [HM.out];rfl
theorem qy (S:Nat→Prop) (g:Sk.Game) (s:Sk.State) (e:En) (w:World) (ht:s.turn=0∨s.turn=1) (hc:0≤s.colour∧s.colour≤7) (he:iW w S e):
 Calls Tryz.prog (gq g.kind) #[kW s,wF e] w fun e_ w'=>e_= .returned (RH (Sk.judge g s e.x))∧Below w.heap.size w w':=by
 unfold gq Sk.judge
 split
 · exact yH S s e w hc he
 · split
   · exact vJ S s e w ht he
   · exact zQ S s e w ht he
structure wG (s:Sk.State):Prop where
 turn:s.turn=0∨s.turn=1
 colour:0≤s.colour∧s.colour≤7
 bI:0≤s.bI∧s.bI≤15
 aP:0≤s.aP∧s.aP≤5
 t0:0≤s.t0∧s.t0≤100
 t1:0≤s.t1∧s.t1≤100
theorem nD (S:Nat→Prop) (g:Sk.Game) (s:Sk.State) (e:En) (v:Sk.fF) (w:World) (h:wG s) (he:iW w S e):
 Calls Tryz.prog (fU g.kind) #[lZ g,kW s,wF e,RH v] w fun e_ w'=>e_= .returned (kW (Sk.after g s e.x v))∧Below w.heap.size w w':=by
 unfold fU Sk.after
 split
 · exact yF S g s e v w h.turn h.colour h.bI he
 · split
   · exact vI S g s e v w h.turn h.aP he
   · exact zO g s e v w h.turn h.t0 h.t1
theorem CB (S:Nat→Prop) (g:Sk.Game) (s:Sk.State) (e:En) (w:World) (ht:s.turn=0∨s.turn=1) (he:iW w S e):
 Calls Tryz.prog (gJ g.kind) #[kW s,wF e] w fun e_ w'=>e_= .returned (.bool (Sk.l9 g s e.x))∧Below w.heap.size w w':=by
 unfold gJ Sk.l9
 split
 · exact yG S s e w he
 · split
   · exact wQ S s e w ht he
   · exact wQ S s e w ht he
theorem LZ {g:Sk.Game} {s:Sk.State} (h:Sk.Ok g s):wG s:=by
 have hi:=h.inr;have hg:=Sk.iM h.game;have h1:=hi.bI;have h2:=hi.t0;have h3:=hi.t1;refine ⟨hi.turn,hi.colour,?_,hi.aP,?_,?_⟩
 all_goals rcases hg with ⟨_,h4,_,h5⟩ | ⟨_,h4,_,h5⟩ | ⟨_,h4,_,h5⟩ <;> omega
theorem Dp {g:Sk.Game} {s:Sk.State} {v:Sk.fF} (h:wG s):wG (if v.stays=true then Sk.mO g s v else Sk.pass (Sk.mO g s v)):=by
 have ht:=h.turn
 split
 · exact ⟨h.turn,h.colour,h.bI,h.aP,h.t0,h.t1⟩
 · exact ⟨by show 1 - s.turn=0∨1 - s.turn=1;omega,h.colour,h.bI,by show 0≤(0:Int)∧(0:Int)≤5;omega,h.t0,h.t1⟩
def cA (s:Sk.State) (fo:Bool) (a b br:Int):Sk.State:=⟨s.turn,a,b,br,s.phase,s.bI,s.colour,false,fo,s.aP,s.t0,s.t1,s.aB⟩
theorem GX (S:Nat→Prop) (g:Sk.Game) (s:Sk.State) (e:En) (w:World) (hk:Sk.iH g.kind=true) (hm:wG s) (he:iW w S e) (hr0:0≤s.s0∧s.s0≤99999) (hr1:0≤s.s1∧s.s1≤99999) (hrb:0≤s.brk∧s.brk≤99999)
 (hvp:0≤(Sk.judge g s e.x).points∧(Sk.judge g s e.x).points≤1000000) (hvq:0≤(Sk.judge g s e.x).penalty∧(Sk.judge g s e.x).penalty≤1000000):
 Calls Tryz.prog 139 #[lZ g,kW s,wF e] w fun e_ w'=>e_= .returned (kW (Sk.uj g s e.x))∧Below w.heap.size w w':=by
 go_enter Tryz.func139,Tryz.ntmps139
 go_upto_region 0 with (fail)
 go_cut [3,4,5,6] (fun v3 v4 v5 v6 wx=>v3=ptr w.heap.size∧v4=ptr (w.heap.size+1)∧v5=ptr (w.heap.size+2)∧v6=ptr (w.heap.size+3)∧aJ w wx [(bT g,23),(aO s,26),(dU e,83),(aO Sk.zero,26)])
 case first=>
  go_wp2;go_meet;exact ⟨rfl,rfl,rfl,rfl,(((((aJ.nil w).new (by simp) (bT g) _).new (by simp) (aO s) _).new (by simp) (dU e) _).new (by simp) (aO Sk.zero) _)⟩
 case rest=>
  obtain ⟨rfl,rfl,rfl,rfl,hB⟩:=hcut;have k0:=(hB.aA rfl).cell (j:=0) rfl;have K0:=hB.keeps 4 rfl (by omega)
  go_upto_region 1 with (fail)
  go_cut [7] (fun v7 wx=>∃ D N,v7=ptr D∧Held wx D (AP (N+1+gI g.kind) (nO (gI g.kind)).length (jg g.kind) (gK g.kind) (gJ g.kind) (gq g.kind) (fU g.kind)) 121∧w.heap.size+4≤D∧aJ w wx [(bT g,23),(aO s,26),(dU e,83),(aO Sk.zero,26)])
  case first=>
   refine wp_region_held_drew (S:=(fun w':World=>∀ p q,p<w.heap.size+4→w'.cell? ⟨p,q,none⟩=wc.cell? ⟨p,q,none⟩)) (by kernel_rfl) ?dS (fun hHeld=>?_)
   case dS=>exact K0.cell
   refine aF 1 ?_;refine aF 2 ?_;refine iF 0 4 (fun K hK=>?_) fun K hK=>?_
   · go_simp
     (first | (go_at_call 63;refine (fJ _).mono ?_;rintro e w1 ⟨rfl,g3⟩;have hl1:=fE (lG (n:=wc.heap.size) g3 (by simp)) hk false;have hl2:=fun o=>fE (lC (n:=wc.heap.size) g3 (by simp) o) hk false;have K1:=(K0.drew).call g3.bw;have mA:=trivial;have hZ:=Held.new w1 zI 121;have jy:w.heap.size+4≤w1.heap.size:=K1.sz;have hB1:=(hB.drew).call (by simp) g3.bw) | (go_at_call 63;refine (fJ _).mono ?_;rintro e w1 ⟨rfl,g3⟩;have hl1:=fE (lG (n:=wc.heap.size+1) g3 (by simp)) hk false;have hl2:=fun o=>fE (lC (n:=wc.heap.size+1) g3 (by simp) o) hk false;have K1:=(K0.drew.alloc _).call g3.bw;have mB:=trivial;have hZ:=(Held.newAt (g:=wc.heap.size) wc.drew zI 121 rfl).below g3.bw;have jy:w.heap.size+4≤wc.heap.size:=K0.sz;have hB1:=(hB.drew.alloc (by simp) _).call (by simp) g3.bw))
     refine ay hK (K1.cell) fun hHeld=>?_;clear hK K;refine iF 3 4 (fun K hK=>?_) fun K hK=>?_
     · go_simp
       refine ay hK (by first | exact K1.cell | exact (K1.alloc _).cell) fun hHeld=>?_;clear hK K;refine aG 4 fun K hK=>?_;go_simp;refine ay hK (by first | (have _m:=mA;exact (K1.alloc _).cell) | exact (K0.drew.alloc _).cell) fun hHeld=>?_;clear hK K;refine aG 5 fun K hK=>?_
       first | (have _m:=mA;refine aU hZ (AP (wc.heap.size+1+gI g.kind) (nO (gI g.kind)).length (jg g.kind) (gK g.kind) (gJ g.kind) (gq g.kind) (fU g.kind)) rfl rl_info (kH _ _ _ _ _ _ _) (.tmp 7) (.tmp 14) rfl rfl rfl ?_) | (have _m:=mB;refine aU hZ (AP ((wc.heap.size+1)+1+gI g.kind) (nO (gI g.kind)).length (jg g.kind) (gK g.kind) (gJ g.kind) (gq g.kind) (fU g.kind)) rfl rl_info (kH _ _ _ _ _ _ _) (.tmp 7) (.tmp 14) rfl rfl rfl ?_)
       refine ay hK (by first | (have _m:=mA;exact ((K1.alloc _).fM jy _ _).cell) | (have _m:=mB;exact (K1.fM jy _ _).cell)) fun hHeld=>?_;clear hK K;refine wpAnyH_done (by kernel_rfl) ?_ _;go_wp2;go_meet
       first | (have _m:=mA;exact ⟨_,_,rfl,hZ.whole _ rfl,jy,by first | (have _m:=mA;exact ((hB1.alloc (by simp) _).fM (by simpa using jy) _ _)) | (have _m:=mB;exact (hB1.fM (by simpa using jy) _ _))⟩) | (have _m:=mB;exact ⟨_,_,rfl,hZ.whole _ rfl,jy,by first | (have _m:=mA;exact ((hB1.alloc (by simp) _).fM (by simpa using jy) _ _)) | (have _m:=mB;exact (hB1.fM (by simpa using jy) _ _))⟩)
     · go_simp
       refine ay hK (by first | (have _m:=mA;exact (K1.alloc _).cell) | exact (K0.drew.alloc _).cell) fun hHeld=>?_;clear hK K;refine aG 3 fun K hK=>?_;go_simp;refine ay hK (by first | exact K1.cell | exact (K1.alloc _).cell) fun hHeld=>?_;clear hK K;refine aG 5 fun K hK=>?_
       first | (have _m:=mA;refine aU hZ (AP (wc.heap.size+1+gI g.kind) (nO (gI g.kind)).length (jg g.kind) (gK g.kind) (gJ g.kind) (gq g.kind) (fU g.kind)) rfl rl_info (kH _ _ _ _ _ _ _) (.tmp 7) (.tmp 14) rfl rfl rfl ?_) | (have _m:=mB;refine aU hZ (AP ((wc.heap.size+1)+1+gI g.kind) (nO (gI g.kind)).length (jg g.kind) (gK g.kind) (gJ g.kind) (gq g.kind) (fU g.kind)) rfl rl_info (kH _ _ _ _ _ _ _) (.tmp 7) (.tmp 14) rfl rfl rfl ?_)
       refine ay hK (by first | (have _m:=mA;exact ((K1.alloc _).fM jy _ _).cell) | (have _m:=mB;exact (K1.fM jy _ _).cell)) fun hHeld=>?_;clear hK K;refine wpAnyH_done (by kernel_rfl) ?_ _;go_wp2;go_meet
       first | (have _m:=mA;exact ⟨_,_,rfl,hZ.whole _ rfl,jy,by first | (have _m:=mA;exact ((hB1.alloc (by simp) _).fM (by simpa using jy) _ _)) | (have _m:=mB;exact (hB1.fM (by simpa using jy) _ _))⟩) | (have _m:=mB;exact ⟨_,_,rfl,hZ.whole _ rfl,jy,by first | (have _m:=mA;exact ((hB1.alloc (by simp) _).fM (by simpa using jy) _ _)) | (have _m:=mB;exact (hB1.fM (by simpa using jy) _ _))⟩)
   · go_simp
     refine ay hK (by first | (have _m:=mA;exact (K1.alloc _).cell) | exact (K0.drew.alloc _).cell) fun hHeld=>?_;clear hK K;refine aG 0 fun K hK=>?_;go_simp
     (first | (go_at_call 63;refine (fJ _).mono ?_;rintro e w1 ⟨rfl,g3⟩;have hl1:=fE (lG (n:=wc.heap.size) g3 (by simp)) hk false;have hl2:=fun o=>fE (lC (n:=wc.heap.size) g3 (by simp) o) hk false;have K1:=(K0.drew).call g3.bw;have mA:=trivial;have hZ:=Held.new w1 zI 121;have jy:w.heap.size+4≤w1.heap.size:=K1.sz;have hB1:=(hB.drew).call (by simp) g3.bw) | (go_at_call 63;refine (fJ _).mono ?_;rintro e w1 ⟨rfl,g3⟩;have hl1:=fE (lG (n:=wc.heap.size+1) g3 (by simp)) hk false;have hl2:=fun o=>fE (lC (n:=wc.heap.size+1) g3 (by simp) o) hk false;have K1:=(K0.drew.alloc _).call g3.bw;have mB:=trivial;have hZ:=(Held.newAt (g:=wc.heap.size) wc.drew zI 121 rfl).below g3.bw;have jy:w.heap.size+4≤wc.heap.size:=K0.sz;have hB1:=(hB.drew.alloc (by simp) _).call (by simp) g3.bw))
     refine ay hK (K1.cell) fun hHeld=>?_;clear hK K;refine aG 3 fun K hK=>?_;go_simp;refine ay hK (by first | exact K1.cell | exact (K1.alloc _).cell) fun hHeld=>?_;clear hK K;refine aG 5 fun K hK=>?_
     first | (have _m:=mA;refine aU hZ (AP (wc.heap.size+1+gI g.kind) (nO (gI g.kind)).length (jg g.kind) (gK g.kind) (gJ g.kind) (gq g.kind) (fU g.kind)) rfl rl_info (kH _ _ _ _ _ _ _) (.tmp 7) (.tmp 14) rfl rfl rfl ?_) | (have _m:=mB;refine aU hZ (AP ((wc.heap.size+1)+1+gI g.kind) (nO (gI g.kind)).length (jg g.kind) (gK g.kind) (gJ g.kind) (gq g.kind) (fU g.kind)) rfl rl_info (kH _ _ _ _ _ _ _) (.tmp 7) (.tmp 14) rfl rfl rfl ?_)
     refine ay hK (by first | (have _m:=mA;exact ((K1.alloc _).fM jy _ _).cell) | (have _m:=mB;exact (K1.fM jy _ _).cell)) fun hHeld=>?_;clear hK K;refine wpAnyH_done (by kernel_rfl) ?_ _;go_wp2;go_meet
     first | (have _m:=mA;exact ⟨_,_,rfl,hZ.whole _ rfl,jy,by first | (have _m:=mA;exact ((hB1.alloc (by simp) _).fM (by simpa using jy) _ _)) | (have _m:=mB;exact (hB1.fM (by simpa using jy) _ _))⟩) | (have _m:=mB;exact ⟨_,_,rfl,hZ.whole _ rfl,jy,by first | (have _m:=mA;exact ((hB1.alloc (by simp) _).fM (by simpa using jy) _ _)) | (have _m:=mB;exact (hB1.fM (by simpa using jy) _ _))⟩)
  case rest=>
   obtain ⟨D,N,rfl,hR,hD,hB1⟩:=hcut;have hB:=hB1;clear hB1 k0 K0;obtain ⟨v,hv⟩:∃ v,Sk.judge g s e.x=v:=⟨_,rfl⟩;have OO:=fun W (hb:Below w.heap.size w W)=>qy S g s e W hm.turn hm.colour (he.below hb);have f4:=hR.cell (j:=4) rfl;have eg:=qm g.kind;obtain ⟨gj,hgj⟩:∃ x,gq g.kind=x:=⟨_,rfl⟩
   simp only [hgj,hv] at OO f4 eg
   have HJ:=hide OO;have HV:=hide hv;rw [hv] at hvp hvq;clear OO hgj hv
   go_upto_region 2 with (fail)
   go_cut [8] (fun v8 wx=>∃ Dv,v8=ptr Dv∧Held wx Dv (fG v) 78∧wc.heap.size≤Dv∧Below wc.heap.size wc wx)
   case first=>
    go_wp2_with (first | ((with_reducible (refine ah 26 (.tmp 4) ?lx ?_));(case lx=>rfl);refine au (hB.get 1 rfl) Tryz.underlying26 rfl ak rfl (.tmp 4) rfl rfl ?_) | ((with_reducible (refine ah 83 (.tmp 5) ?lx ?_));(case lx=>rfl);refine au (hB.get 2 rfl) Tryz.underlying83 rfl bF rfl (.tmp 5) rfl rfl ?_) | (go_at_fn gj;refine (HJ.out _ hB.bw).mono ?_;rintro e1 w5 ⟨rfl,hb5⟩;have hZ:=Held.new w5 (fG ⟨0,0,0,false⟩) 78) | ((with_reducible (refine aH 78 (.tmp 8) (.tmp 19) ?lx ?_));(case lx=>rfl);refine aC (hZ) (fG v) rfl dQ (jd _) rfl (.tmp 8) (.tmp 19) rfl rfl rfl ?_))
    go_meet;exact ⟨_,rfl,hZ.whole (fG v) rfl,hb5.size,below_setCells _ hb5.size _ _ _ _ (hb5.alloc hb5.size _)⟩
   case rest=>
    obtain ⟨Dv,rfl,hVd,hDv,hbv⟩:=hcut;have hR2:=hR.below hbv;have hB2:=hB.call (by simp) hbv;have hDl:=hR.lt;clear f4 eg HJ;have k0:=(hB2.get 1 rfl).cell (j:=0) rfl
    go_upto_region 4 with (fail)
    go_cut [10] (fun v10 wx=>∃ Dn,v10=ptr Dn∧Held wx Dn (aO s) 26∧wc.heap.size≤Dn∧Below wc.heap.size wc wx)
    case first=>
     have hZ:=Held.new wc (aO Sk.zero) 26
     go_wp2_with (first | ((with_reducible (refine ah 26 (.tmp 4) ?lx ?_));(case lx=>rfl);refine au (hB2.get 1 rfl) Tryz.underlying26 rfl ak rfl (.tmp 4) rfl rfl ?_) | ((with_reducible (refine aH 26 (.tmp 10) (.tmp 22) ?lx ?_));(case lx=>rfl);refine aC (hZ) (aO s) rfl ak (bH _) rfl (.tmp 10) (.tmp 22) rfl rfl rfl ?_))
     go_meet;exact ⟨_,rfl,hZ.whole (aO s) rfl,Nat.le_refl _,below_setCells _ (Nat.le_refl _) _ _ _ _ ((Below.refl _ _).alloc (Nat.le_refl _) _)⟩
    case rest=>
     obtain ⟨Dn,rfl,hN,hDn,hbn⟩:=hcut;have vG:=hVd.below hbn;have WV:=hR2.below hbn;have hB3:=hB2.call (by simp) hbn;have att:=hVd.lt;clear k0;have hbw:=hB3.bw
     have hne1:Dv≠Dn:=by omega
     have hne2:w.heap.size≠Dn:=by have:=hB.size (by simp);simp only [List.length_cons,List.length_nil] at this;omega
     have vw:w.heap.size≤Dn:=by have:=hB.size (by simp);simp only [List.length_cons,List.length_nil] at this;omega
     have k0:=(hB3.aA rfl).cell (j:=0) rfl;have u1:=vG.cell (j:=1) rfl;have n7:=hN.cell (j:=7) rfl;have n7f:=hN.frozen 7;have n8:=hN.cell (j:=8) rfl;have n8f:=hN.frozen 8
     go_upto_region 5 with (fail)
     go_cut [] (fun wx=>Held wx Dn (aO (cA s (decide (g.kind=Sk.aW∧0<v.gB)) s.s0 s.s1 s.brk)) 26∧(∀ b,b≠Dn→wx.heap[b]? =wc.heap[b]?)∧Below w.heap.size w wx)
     case first=>
      by_cases hg:g.kind=Sk.aW
      · have hg1:=wt hg
        have hfo:decide (g.kind=Sk.aW∧0<v.gB)=decide (0<v.gB):=by simp [hg]
        have Hl:=hide hfo;clear hg hfo;refine wp_region_held_drew (S:=(fun w':World=>w'.cell? ⟨w.heap.size,0,none⟩=wc.cell? ⟨w.heap.size,0,none⟩∧w'.cell? ⟨Dv,1,none⟩=wc.cell? ⟨Dv,1,none⟩)) (by kernel_rfl) ?iJ (fun hHeld=>?_)
        case iJ=>exact ⟨rfl,rfl⟩
        refine aF 0 ?_;refine aF 1 ?_;refine aF 2 ?_;refine aF 3 ?_;refine aF 4 ?_;refine aF 5 ?_;refine aF 6 ?_;refine aF 7 ?_;refine aF 8 ?_;refine aG 9 fun K hK=>?_;go_simp
        first | (have _m:=s11;have o2:=trivial) | have s9:=trivial
        refine ay hK (⟨(World.cell?_setCell_other _ _ _ _ (by intro h;injection h;omega)).trans hHeld.1,(World.cell?_setCell_other _ _ _ _ (by intro h;injection h;omega)).trans hHeld.2⟩) fun hHeld=>?_;clear hK K;refine aF 10 ?_;refine aG 11 fun K hK=>?_;go_simp
        first | (have _m:=s9;have o1:=trivial) | have s11:=trivial
        refine ay hK (⟨(World.cell?_setCell_other _ _ _ _ (by intro h;injection h;omega)).trans hHeld.1,(World.cell?_setCell_other _ _ _ _ (by intro h;injection h;omega)).trans hHeld.2⟩) fun hHeld=>?_;clear hK K;refine wpAnyH_done (by kernel_rfl) ?_ _;go_wp2;go_meet
        first | (have _m:=o1;rw [Hl.out];exact ⟨(hN.drew.set 7 (.bool false)).set 8 (.bool (decide (0<v.gB))),fun b hb=>(Below.heap_setCell _ ⟨Dn,8,none⟩ _ b hb).trans (Below.heap_setCell _ ⟨Dn,7,none⟩ _ b hb),(hbw.drew.setCell (p:=⟨Dn,7,none⟩) vw _).setCell (p:=⟨Dn,8,none⟩) vw _⟩) | (have _m:=o2;rw [Hl.out];exact ⟨(hN.drew.set 8 (.bool (decide (0<v.gB)))).set 7 (.bool false),fun b hb=>(Below.heap_setCell _ ⟨Dn,7,none⟩ _ b hb).trans (Below.heap_setCell _ ⟨Dn,8,none⟩ _ b hb),(hbw.drew.setCell (p:=⟨Dn,8,none⟩) vw _).setCell (p:=⟨Dn,7,none⟩) vw _⟩)
      · have hg1:=wf hg
        have hfo:decide (g.kind=Sk.aW∧0<v.gB)=false:=by simp [hg]
        have Hl:=hide hfo;clear hg hfo;refine wp_region_held_drew (S:=(fun w':World=>w'.cell? ⟨w.heap.size,0,none⟩=wc.cell? ⟨w.heap.size,0,none⟩∧w'.cell? ⟨Dv,1,none⟩=wc.cell? ⟨Dv,1,none⟩)) (by kernel_rfl) ?mJ (fun hHeld=>?_)
        case mJ=>exact ⟨rfl,rfl⟩
        refine aF 0 ?_;refine aF 1 ?_;refine aF 2 ?_;refine aF 3 ?_;refine iC 4 ?_;refine iC 5 ?_;refine iC 6 ?_;refine aF 7 ?_;refine aF 8 ?_;refine aG 9 fun K hK=>?_;go_simp
        first | (have _m:=s11;have o2:=trivial) | have s9:=trivial
        refine ay hK (⟨(World.cell?_setCell_other _ _ _ _ (by intro h;injection h;omega)).trans hHeld.1,(World.cell?_setCell_other _ _ _ _ (by intro h;injection h;omega)).trans hHeld.2⟩) fun hHeld=>?_;clear hK K;refine aF 10 ?_;refine aG 11 fun K hK=>?_;go_simp
        first | (have _m:=s9;have o1:=trivial) | have s11:=trivial
        refine ay hK (⟨(World.cell?_setCell_other _ _ _ _ (by intro h;injection h;omega)).trans hHeld.1,(World.cell?_setCell_other _ _ _ _ (by intro h;injection h;omega)).trans hHeld.2⟩) fun hHeld=>?_;clear hK K;refine wpAnyH_done (by kernel_rfl) ?_ _;go_wp2;go_meet
        first | (have _m:=o1;rw [Hl.out];exact ⟨(hN.drew.set 7 (.bool false)).set 8 (.bool (false)),fun b hb=>(Below.heap_setCell _ ⟨Dn,8,none⟩ _ b hb).trans (Below.heap_setCell _ ⟨Dn,7,none⟩ _ b hb),(hbw.drew.setCell (p:=⟨Dn,7,none⟩) vw _).setCell (p:=⟨Dn,8,none⟩) vw _⟩) | (have _m:=o2;rw [Hl.out];exact ⟨(hN.drew.set 8 (.bool (false))).set 7 (.bool false),fun b hb=>(Below.heap_setCell _ ⟨Dn,7,none⟩ _ b hb).trans (Below.heap_setCell _ ⟨Dn,8,none⟩ _ b hb),(hbw.drew.setCell (p:=⟨Dn,8,none⟩) vw _).setCell (p:=⟨Dn,7,none⟩) vw _⟩)
     case rest=>
      obtain ⟨TM,Xb,vX⟩:=hcut;obtain ⟨fo,hfo⟩:∃ y,decide (g.kind=Sk.aW∧0<v.gB)=y:=⟨_,rfl⟩;rw [hfo] at TM;have Hl:=hide hfo;clear hfo k0 u1 n7 n7f n8 n8f
      have Eh:D≠Dn:=by have h1:=hbv.size;omega
      have Ei:∀ i,i<4→w.heap.size+i≠Dn:=fun i hi=>by have:=hB.size (by simp);simp only [List.length_cons,List.length_nil] at this;have h1:=hbv.size;omega
      have iP:aJ w wc [(bT g,23),(aO s,26),(dU e,83),(aO Sk.zero,26)]:=⟨fun i e he=>(Xb _ (Ei i (by have:=(List.getElem?_eq_some_iff.1 he).1;simpa using this))).trans (hB3.at_ i e he),vX⟩;have Nj:Held wc Dv (fG v) 78:=(Xb Dv hne1).trans vG;have hR5:Held wc D _ 121:=(Xb D Eh).trans WV
      rcases hm.turn with ht | ht
      · rw [ht]
        have m5:wc.cell? ⟨Dn,1,none⟩=some (Value.int .i64 s.s0):=TM.cell (j:=1) rfl;have m5f:=TM.frozen 1;have u5:=Nj.cell (j:=0) rfl
        have w5:IntKind.i64.wrap (s.s0+v.points)=s.s0+v.points:=by rw [IntKind.wrap_i64];omega
        have x5:IntKind.i64.wrap (0)=0:=by decide
        go_upto_region 6 with (fail)
        go_cut [] (fun wx=>Held wx Dn (aO (cA s fo (s.s0+v.points) s.s1 s.brk)) 26∧(∀ b,b≠Dn→wx.heap[b]? =wc.heap[b]?)∧Below w.heap.size w wx)
        case first=>
         refine wp_region_held_drew (S:=(fun w':World=>w'.cell? ⟨Dv,0,none⟩=wc.cell? ⟨Dv,0,none⟩)) (by kernel_rfl) ?mM (fun hHeld=>?_)
         case mM=>exact rfl
         refine aF 0 ?_;refine aF 1 ?_;refine aF 2 ?_;refine aF 4 ?_;refine aF 5 ?_;refine aF 7 ?_;refine aG 3 fun K hK=>?_;go_simp;refine ay hK (hHeld) fun hHeld=>?_;clear hK K;refine aF 6 ?_;refine aF 8 ?_;refine aG 9 fun K hK=>?_;go_simp;refine ay hK ((World.cell?_setCell_other _ _ _ _ (by intro h;injection h;omega)).trans hHeld) fun hHeld=>?_;clear hK K;refine wpAnyH_done (by kernel_rfl) ?_ _;go_wp2;go_meet;exact ⟨(TM.set 1 (.int .i64 (s.s0+v.points))).drew,fun b hb=>Below.heap_setCell _ ⟨Dn,1,none⟩ _ b hb,(vX.setCell (p:=⟨Dn,1,none⟩) vw _).drew⟩
        case rest=>
         obtain ⟨TN,IB,OI⟩:=hcut;have lV:aJ w wc [(bT g,23),(aO s,26),(dU e,83),(aO Sk.zero,26)]:=⟨fun i e he=>(IB _ (Ei i (by have:=(List.getElem?_eq_some_iff.1 he).1;simpa using this))).trans (iP.at_ i e he),OI⟩;have Ls:Held wc Dv (fG v) 78:=(IB Dv hne1).trans Nj;have Kr:Held wc D _ 121:=(IB D Eh).trans hR5;clear m5 m5f u5 w5 x5;have m6:wc.cell? ⟨Dn,2,none⟩=some (Value.int .i64 s.s1):=TN.cell (j:=2) rfl;have m6f:=TN.frozen 2;have u6:=Ls.cell (j:=2) rfl
         have w6:IntKind.i64.wrap (s.s1+v.penalty)=s.s1+v.penalty:=by rw [IntKind.wrap_i64];omega
         have x6:IntKind.i64.wrap (1)=1:=by decide
         go_upto_region 7 with (fail)
         go_cut [] (fun wx=>Held wx Dn (aO (cA s fo (s.s0+v.points) (s.s1+v.penalty) s.brk)) 26∧(∀ b,b≠Dn→wx.heap[b]? =wc.heap[b]?)∧Below w.heap.size w wx)
         case first=>
          refine wp_region_held_drew (S:=(fun w':World=>w'.cell? ⟨Dv,2,none⟩=wc.cell? ⟨Dv,2,none⟩)) (by kernel_rfl) ?tZ (fun hHeld=>?_)
          case tZ=>exact rfl
          refine aF 0 ?_;refine aF 1 ?_;refine aF 2 ?_;refine aF 3 ?_;refine aF 5 ?_;refine aF 6 ?_;refine aF 8 ?_;refine aG 4 fun K hK=>?_;go_simp;refine ay hK (hHeld) fun hHeld=>?_;clear hK K;refine aF 7 ?_;refine aF 9 ?_;refine aG 10 fun K hK=>?_;go_simp;refine ay hK ((World.cell?_setCell_other _ _ _ _ (by intro h;injection h;omega)).trans hHeld) fun hHeld=>?_;clear hK K;refine wpAnyH_done (by kernel_rfl) ?_ _;go_wp2;go_meet;exact ⟨(TN.set 2 (.int .i64 (s.s1+v.penalty))).drew,fun b hb=>Below.heap_setCell _ ⟨Dn,2,none⟩ _ b hb,(OI.setCell (p:=⟨Dn,2,none⟩) vw _).drew⟩
         case rest=>
          obtain ⟨TP,IC,OJ⟩:=hcut;have Oo:aJ w wc [(bT g,23),(aO s,26),(dU e,83),(aO Sk.zero,26)]:=⟨fun i e he=>(IC _ (Ei i (by have:=(List.getElem?_eq_some_iff.1 he).1;simpa using this))).trans (lV.at_ i e he),OJ⟩;have WX:Held wc Dv (fG v) 78:=(IC Dv hne1).trans Ls;have Kt:Held wc D _ 121:=(IC D Eh).trans Kr;clear m6 m6f u6 w6 x6;have m8:wc.cell? ⟨Dn,3,none⟩=some (Value.int .i64 s.brk):=TP.cell (j:=3) rfl;have m8f:=TP.frozen 3;have u8:=WX.cell (j:=0) rfl
          have u8w:IntKind.i64.wrap (s.brk+v.points)=s.brk+v.points:=by rw [IntKind.wrap_i64];omega
          go_upto_region 8 with (fail)
          go_cut [] (fun wx=>Held wx Dn (aO (cA s fo (s.s0+v.points) (s.s1+v.penalty) (s.brk+v.points))) 26∧(∀ b,b≠Dn→wx.heap[b]? =wc.heap[b]?)∧Below w.heap.size w wx)
          case first=>
           go_wp2;go_meet;exact ⟨TP.set 3 (.int .i64 (s.brk+v.points)),fun b hb=>Below.heap_setCell _ ⟨Dn,3,none⟩ _ b hb,OJ.setCell (p:=⟨Dn,3,none⟩) vw _⟩
          case rest=>
           obtain ⟨Lm,IE,II⟩:=hcut;have EX:aJ w wc [(bT g,23),(aO s,26),(dU e,83),(aO Sk.zero,26)]:=⟨fun i e he=>(IE _ (Ei i (by have:=(List.getElem?_eq_some_iff.1 he).1;simpa using this))).trans (Oo.at_ i e he),II⟩;have Lu:Held wc Dv (fG v) 78:=(IE Dv hne1).trans WX;have Ot:Held wc D _ 121:=(IE D Eh).trans Kt;clear m8 m8f u8 u8w TP TN TM WX Ls Nj Kt Kr hR5 Oo lV iP
           have hX:Sk.mO g s v=(cA s fo (s.s0+v.points) (s.s1+v.penalty) (s.brk+v.points)):=by unfold Sk.mO cA;rw [Hl.out];simp [ht]
           obtain ⟨X,eX⟩:∃ x,(cA s fo (s.s0+v.points) (s.s1+v.penalty) (s.brk+v.points))=x:=⟨_,rfl⟩;rw [eX] at hX Lm
           have htX:X.turn=0∨X.turn=1:=by rw [← hX];exact hm.turn
           have hmid:=Dp (g:=g) (v:=v) hm;rw [hX] at hmid;have HX:=hide hX;clear hX eX;have u9:=Lu.cell (j:=3) rfl
           cases hy:v.stays
           all_goals
            rw [hy] at u9
           · have Xg:wG (Sk.pass X):=by simpa [hy] using hmid
             have HY:=hide hy;clear hmid hy
             go_upto_region 10 with (fail)
             go_cut [] (fun wx=>Held wx Dn (aO (Sk.pass X)) 26∧(∀ b,b≠Dn→b<wc.heap.size→wx.heap[b]? =wc.heap[b]?)∧Below w.heap.size w wx)
             case first=>
              go_wp2_with (first | ((with_reducible (refine ah 26 (.tmp 10) ?lx ?_));(case lx=>rfl);refine au (Lm) Tryz.underlying26 rfl ak rfl (.tmp 10) rfl rfl ?_) | (go_at_call 140;refine (nK X htX _).mono ?_;rintro e1 w6 ⟨rfl,hb6⟩;have Lp:=Lm.below hb6) | ((with_reducible (refine aH 26 (.tmp 10) (.tmp 62) ?lx ?_));(case lx=>rfl);refine aC (Lp) (aO (Sk.pass X)) rfl ak (bH _) rfl (.tmp 10) (.tmp 62) rfl rfl rfl ?_))
              go_meet;exact ⟨Lp.whole (aO (Sk.pass X)) rfl,fun b hb hl=>(wI hb _ _ _).trans (hb6.block b hl),below_setCells _ vw _ _ _ _ (II.trans (hb6.mono II.size))⟩
             case rest=>
              obtain ⟨Lp,IG,Xd⟩:=hcut;have kC:aJ w wc [(bT g,23),(aO s,26),(dU e,83),(aO Sk.zero,26)]:=⟨fun i e he=>(IG _ (Ei i (by have:=(List.getElem?_eq_some_iff.1 he).1;simpa using this)) (EX.lt (List.getElem?_eq_some_iff.1 he).1)).trans (EX.at_ i e he),Xd⟩;have WY:Held wc Dv (fG v) 78:=(IG Dv hne1 Lu.lt).trans Lu;have Ou:Held wc D _ 121:=(IG D Eh Ot.lt).trans Ot;clear EX Lu Ot Lm u9;have f5:=Ou.cell (j:=5) rfl;have eg:=ni g.kind;have HA:=hide fun W (hb:Below w.heap.size w W)=>nD S g (Sk.pass X) e v W Xg (he.below hb);obtain ⟨ga,hga⟩:∃ x,fU g.kind=x:=⟨_,rfl⟩;rw [hga] at f5 eg HA;clear hga
              go_wp2_with (first | ((with_reducible (refine ah 26 (.tmp 10) ?lx ?_));(case lx=>rfl);refine au (Lp) Tryz.underlying26 rfl ak rfl (.tmp 10) rfl rfl ?_) | ((with_reducible (refine ah 23 (.tmp 3) ?lx ?_));(case lx=>rfl);refine au (kC.get 0 rfl) Tryz.underlying23 rfl cZ rfl (.tmp 3) rfl rfl ?_) | ((with_reducible (refine ah 83 (.tmp 5) ?lx ?_));(case lx=>rfl);refine au (kC.get 2 rfl) Tryz.underlying83 rfl bF rfl (.tmp 5) rfl rfl ?_) | ((with_reducible (refine ah 78 (.tmp 8) ?lx ?_));(case lx=>rfl);refine au (WY) Tryz.underlying78 rfl dQ rfl (.tmp 8) rfl rfl ?_) | (go_at_fn ga;refine (HA.out _ kC.bw).mono ?_;rintro e1 w6 ⟨rfl,hb6⟩;have hB:=kC.call (by simp) hb6) | ((with_reducible (refine aH 26 (.tmp 6) (.tmp 69) ?lx ?_));(case lx=>rfl);refine aC (hB.get 3 rfl) (aO (Sk.after g (Sk.pass X) e.x v)) rfl ak (bH _) rfl (.tmp 6) (.tmp 69) rfl rfl rfl ?_))
              have hZ:=hB.put 3 rfl (aO (Sk.after g (Sk.pass X) e.x v)) rfl;refine bodyPost_ret (aX (p:=6) (hZ.get 3 rfl) Tryz.underlying26 rfl ak rfl _ rfl) rfl ⟨?_,hZ.bw⟩;have h1:=HV.out;have h2:=HX.out;have h3:=HY.out
              unfold Sk.uj
              rw [h1,h3,h2]
              rfl
           · have Xg:wG X:=by simpa [hy] using hmid
             have HY:=hide hy;clear hmid hy;have Lp:=Lm;have kC:=EX;have WY:=Lu;have Ou:=Ot;clear Lm EX Lu Ot;have f5:=Ou.cell (j:=5) rfl;have eg:=ni g.kind;have HA:=hide fun W (hb:Below w.heap.size w W)=>nD S g X e v W Xg (he.below hb);obtain ⟨ga,hga⟩:∃ x,fU g.kind=x:=⟨_,rfl⟩;rw [hga] at f5 eg HA;clear hga
             go_wp2_with (first | ((with_reducible (refine ah 26 (.tmp 10) ?lx ?_));(case lx=>rfl);refine au (Lp) Tryz.underlying26 rfl ak rfl (.tmp 10) rfl rfl ?_) | ((with_reducible (refine ah 23 (.tmp 3) ?lx ?_));(case lx=>rfl);refine au (kC.get 0 rfl) Tryz.underlying23 rfl cZ rfl (.tmp 3) rfl rfl ?_) | ((with_reducible (refine ah 83 (.tmp 5) ?lx ?_));(case lx=>rfl);refine au (kC.get 2 rfl) Tryz.underlying83 rfl bF rfl (.tmp 5) rfl rfl ?_) | ((with_reducible (refine ah 78 (.tmp 8) ?lx ?_));(case lx=>rfl);refine au (WY) Tryz.underlying78 rfl dQ rfl (.tmp 8) rfl rfl ?_) | (go_at_fn ga;refine (HA.out _ kC.bw).mono ?_;rintro e1 w6 ⟨rfl,hb6⟩;have hB:=kC.call (by simp) hb6) | ((with_reducible (refine aH 26 (.tmp 6) (.tmp 69) ?lx ?_));(case lx=>rfl);refine aC (hB.get 3 rfl) (aO (Sk.after g X e.x v)) rfl ak (bH _) rfl (.tmp 6) (.tmp 69) rfl rfl rfl ?_))
             have hZ:=hB.put 3 rfl (aO (Sk.after g X e.x v)) rfl;refine bodyPost_ret (aX (p:=6) (hZ.get 3 rfl) Tryz.underlying26 rfl ak rfl _ rfl) rfl ⟨?_,hZ.bw⟩;have h1:=HV.out;have h2:=HX.out;have h3:=HY.out
             unfold Sk.uj
             rw [h1,h3,h2]
             rfl
      · rw [ht]
        have m5:wc.cell? ⟨Dn,2,none⟩=some (Value.int .i64 s.s1):=TM.cell (j:=2) rfl;have m5f:=TM.frozen 2;have u5:=Nj.cell (j:=0) rfl
        have w5:IntKind.i64.wrap (s.s1+v.points)=s.s1+v.points:=by rw [IntKind.wrap_i64];omega
        have x5:IntKind.i64.wrap (1)=1:=by decide
        go_upto_region 6 with (fail)
        go_cut [] (fun wx=>Held wx Dn (aO (cA s fo s.s0 (s.s1+v.points) s.brk)) 26∧(∀ b,b≠Dn→wx.heap[b]? =wc.heap[b]?)∧Below w.heap.size w wx)
        case first=>
         refine wp_region_held_drew (S:=(fun w':World=>w'.cell? ⟨Dv,0,none⟩=wc.cell? ⟨Dv,0,none⟩)) (by kernel_rfl) ?oP (fun hHeld=>?_)
         case oP=>exact rfl
         refine aF 0 ?_;refine aF 1 ?_;refine aF 2 ?_;refine aF 4 ?_;refine aF 5 ?_;refine aF 7 ?_;refine aG 3 fun K hK=>?_;go_simp;refine ay hK (hHeld) fun hHeld=>?_;clear hK K;refine aF 6 ?_;refine aF 8 ?_;refine aG 9 fun K hK=>?_;go_simp;refine ay hK ((World.cell?_setCell_other _ _ _ _ (by intro h;injection h;omega)).trans hHeld) fun hHeld=>?_;clear hK K;refine wpAnyH_done (by kernel_rfl) ?_ _;go_wp2;go_meet;exact ⟨(TM.set 2 (.int .i64 (s.s1+v.points))).drew,fun b hb=>Below.heap_setCell _ ⟨Dn,2,none⟩ _ b hb,(vX.setCell (p:=⟨Dn,2,none⟩) vw _).drew⟩
        case rest=>
         obtain ⟨TN,IB,OI⟩:=hcut;have lV:aJ w wc [(bT g,23),(aO s,26),(dU e,83),(aO Sk.zero,26)]:=⟨fun i e he=>(IB _ (Ei i (by have:=(List.getElem?_eq_some_iff.1 he).1;simpa using this))).trans (iP.at_ i e he),OI⟩;have Ls:Held wc Dv (fG v) 78:=(IB Dv hne1).trans Nj;have Kr:Held wc D _ 121:=(IB D Eh).trans hR5;clear m5 m5f u5 w5 x5;have m6:wc.cell? ⟨Dn,1,none⟩=some (Value.int .i64 s.s0):=TN.cell (j:=1) rfl;have m6f:=TN.frozen 1;have u6:=Ls.cell (j:=2) rfl
         have w6:IntKind.i64.wrap (s.s0+v.penalty)=s.s0+v.penalty:=by rw [IntKind.wrap_i64];omega
         have x6:IntKind.i64.wrap (0)=0:=by decide
         go_upto_region 7 with (fail)
         go_cut [] (fun wx=>Held wx Dn (aO (cA s fo (s.s0+v.penalty) (s.s1+v.points) s.brk)) 26∧(∀ b,b≠Dn→wx.heap[b]? =wc.heap[b]?)∧Below w.heap.size w wx)
         case first=>
          refine wp_region_held_drew (S:=(fun w':World=>w'.cell? ⟨Dv,2,none⟩=wc.cell? ⟨Dv,2,none⟩)) (by kernel_rfl) ?oQ (fun hHeld=>?_)
          case oQ=>exact rfl
          refine aF 0 ?_;refine aF 1 ?_;refine aF 2 ?_;refine aF 3 ?_;refine aF 5 ?_;refine aF 6 ?_;refine aF 8 ?_;refine aG 4 fun K hK=>?_;go_simp;refine ay hK (hHeld) fun hHeld=>?_;clear hK K;refine aF 7 ?_;refine aF 9 ?_;refine aG 10 fun K hK=>?_;go_simp;refine ay hK ((World.cell?_setCell_other _ _ _ _ (by intro h;injection h;omega)).trans hHeld) fun hHeld=>?_;clear hK K;refine wpAnyH_done (by kernel_rfl) ?_ _;go_wp2;go_meet;exact ⟨(TN.set 1 (.int .i64 (s.s0+v.penalty))).drew,fun b hb=>Below.heap_setCell _ ⟨Dn,1,none⟩ _ b hb,(OI.setCell (p:=⟨Dn,1,none⟩) vw _).drew⟩
         case rest=>
          obtain ⟨TP,IC,OJ⟩:=hcut;have Oo:aJ w wc [(bT g,23),(aO s,26),(dU e,83),(aO Sk.zero,26)]:=⟨fun i e he=>(IC _ (Ei i (by have:=(List.getElem?_eq_some_iff.1 he).1;simpa using this))).trans (lV.at_ i e he),OJ⟩;have WX:Held wc Dv (fG v) 78:=(IC Dv hne1).trans Ls;have Kt:Held wc D _ 121:=(IC D Eh).trans Kr;clear m6 m6f u6 w6 x6;have m8:wc.cell? ⟨Dn,3,none⟩=some (Value.int .i64 s.brk):=TP.cell (j:=3) rfl;have m8f:=TP.frozen 3;have u8:=WX.cell (j:=0) rfl
          have u8w:IntKind.i64.wrap (s.brk+v.points)=s.brk+v.points:=by rw [IntKind.wrap_i64];omega
          go_upto_region 8 with (fail)
          go_cut [] (fun wx=>Held wx Dn (aO (cA s fo (s.s0+v.penalty) (s.s1+v.points) (s.brk+v.points))) 26∧(∀ b,b≠Dn→wx.heap[b]? =wc.heap[b]?)∧Below w.heap.size w wx)
          case first=>
           go_wp2;go_meet;exact ⟨TP.set 3 (.int .i64 (s.brk+v.points)),fun b hb=>Below.heap_setCell _ ⟨Dn,3,none⟩ _ b hb,OJ.setCell (p:=⟨Dn,3,none⟩) vw _⟩
          case rest=>
           obtain ⟨Lm,IE,II⟩:=hcut;have EX:aJ w wc [(bT g,23),(aO s,26),(dU e,83),(aO Sk.zero,26)]:=⟨fun i e he=>(IE _ (Ei i (by have:=(List.getElem?_eq_some_iff.1 he).1;simpa using this))).trans (Oo.at_ i e he),II⟩;have Lu:Held wc Dv (fG v) 78:=(IE Dv hne1).trans WX;have Ot:Held wc D _ 121:=(IE D Eh).trans Kt;clear m8 m8f u8 u8w TP TN TM WX Ls Nj Kt Kr hR5 Oo lV iP
           have hX:Sk.mO g s v=(cA s fo (s.s0+v.penalty) (s.s1+v.points) (s.brk+v.points)):=by unfold Sk.mO cA;rw [Hl.out];simp [ht]
           obtain ⟨X,eX⟩:∃ x,(cA s fo (s.s0+v.penalty) (s.s1+v.points) (s.brk+v.points))=x:=⟨_,rfl⟩;rw [eX] at hX Lm
           have htX:X.turn=0∨X.turn=1:=by rw [← hX];exact hm.turn
           have hmid:=Dp (g:=g) (v:=v) hm;rw [hX] at hmid;have HX:=hide hX;clear hX eX;have u9:=Lu.cell (j:=3) rfl
           cases hy:v.stays
           all_goals
            rw [hy] at u9
           · have Xg:wG (Sk.pass X):=by simpa [hy] using hmid
             have HY:=hide hy;clear hmid hy
             go_upto_region 10 with (fail)
             go_cut [] (fun wx=>Held wx Dn (aO (Sk.pass X)) 26∧(∀ b,b≠Dn→b<wc.heap.size→wx.heap[b]? =wc.heap[b]?)∧Below w.heap.size w wx)
             case first=>
              go_wp2_with (first | ((with_reducible (refine ah 26 (.tmp 10) ?lx ?_));(case lx=>rfl);refine au (Lm) Tryz.underlying26 rfl ak rfl (.tmp 10) rfl rfl ?_) | (go_at_call 140;refine (nK X htX _).mono ?_;rintro e1 w6 ⟨rfl,hb6⟩;have Lp:=Lm.below hb6) | ((with_reducible (refine aH 26 (.tmp 10) (.tmp 62) ?lx ?_));(case lx=>rfl);refine aC (Lp) (aO (Sk.pass X)) rfl ak (bH _) rfl (.tmp 10) (.tmp 62) rfl rfl rfl ?_))
              go_meet;exact ⟨Lp.whole (aO (Sk.pass X)) rfl,fun b hb hl=>(wI hb _ _ _).trans (hb6.block b hl),below_setCells _ vw _ _ _ _ (II.trans (hb6.mono II.size))⟩
             case rest=>
              obtain ⟨Lp,IG,Xd⟩:=hcut;have kC:aJ w wc [(bT g,23),(aO s,26),(dU e,83),(aO Sk.zero,26)]:=⟨fun i e he=>(IG _ (Ei i (by have:=(List.getElem?_eq_some_iff.1 he).1;simpa using this)) (EX.lt (List.getElem?_eq_some_iff.1 he).1)).trans (EX.at_ i e he),Xd⟩;have WY:Held wc Dv (fG v) 78:=(IG Dv hne1 Lu.lt).trans Lu;have Ou:Held wc D _ 121:=(IG D Eh Ot.lt).trans Ot;clear EX Lu Ot Lm u9;have f5:=Ou.cell (j:=5) rfl;have eg:=ni g.kind;have HA:=hide fun W (hb:Below w.heap.size w W)=>nD S g (Sk.pass X) e v W Xg (he.below hb);obtain ⟨ga,hga⟩:∃ x,fU g.kind=x:=⟨_,rfl⟩;rw [hga] at f5 eg HA;clear hga
              go_wp2_with (first | ((with_reducible (refine ah 26 (.tmp 10) ?lx ?_));(case lx=>rfl);refine au (Lp) Tryz.underlying26 rfl ak rfl (.tmp 10) rfl rfl ?_) | ((with_reducible (refine ah 23 (.tmp 3) ?lx ?_));(case lx=>rfl);refine au (kC.get 0 rfl) Tryz.underlying23 rfl cZ rfl (.tmp 3) rfl rfl ?_) | ((with_reducible (refine ah 83 (.tmp 5) ?lx ?_));(case lx=>rfl);refine au (kC.get 2 rfl) Tryz.underlying83 rfl bF rfl (.tmp 5) rfl rfl ?_) | ((with_reducible (refine ah 78 (.tmp 8) ?lx ?_));(case lx=>rfl);refine au (WY) Tryz.underlying78 rfl dQ rfl (.tmp 8) rfl rfl ?_) | (go_at_fn ga;refine (HA.out _ kC.bw).mono ?_;rintro e1 w6 ⟨rfl,hb6⟩;have hB:=kC.call (by simp) hb6) | ((with_reducible (refine aH 26 (.tmp 6) (.tmp 69) ?lx ?_));(case lx=>rfl);refine aC (hB.get 3 rfl) (aO (Sk.after g (Sk.pass X) e.x v)) rfl ak (bH _) rfl (.tmp 6) (.tmp 69) rfl rfl rfl ?_))
              have hZ:=hB.put 3 rfl (aO (Sk.after g (Sk.pass X) e.x v)) rfl;refine bodyPost_ret (aX (p:=6) (hZ.get 3 rfl) Tryz.underlying26 rfl ak rfl _ rfl) rfl ⟨?_,hZ.bw⟩;have h1:=HV.out;have h2:=HX.out;have h3:=HY.out
              unfold Sk.uj
              rw [h1,h3,h2]
              rfl
           · have Xg:wG X:=by simpa [hy] using hmid
             have HY:=hide hy;clear hmid hy;have Lp:=Lm;have kC:=EX;have WY:=Lu;have Ou:=Ot;clear Lm EX Lu Ot;have f5:=Ou.cell (j:=5) rfl;have eg:=ni g.kind;have HA:=hide fun W (hb:Below w.heap.size w W)=>nD S g X e v W Xg (he.below hb);obtain ⟨ga,hga⟩:∃ x,fU g.kind=x:=⟨_,rfl⟩;rw [hga] at f5 eg HA;clear hga
             go_wp2_with (first | ((with_reducible (refine ah 26 (.tmp 10) ?lx ?_));(case lx=>rfl);refine au (Lp) Tryz.underlying26 rfl ak rfl (.tmp 10) rfl rfl ?_) | ((with_reducible (refine ah 23 (.tmp 3) ?lx ?_));(case lx=>rfl);refine au (kC.get 0 rfl) Tryz.underlying23 rfl cZ rfl (.tmp 3) rfl rfl ?_) | ((with_reducible (refine ah 83 (.tmp 5) ?lx ?_));(case lx=>rfl);refine au (kC.get 2 rfl) Tryz.underlying83 rfl bF rfl (.tmp 5) rfl rfl ?_) | ((with_reducible (refine ah 78 (.tmp 8) ?lx ?_));(case lx=>rfl);refine au (WY) Tryz.underlying78 rfl dQ rfl (.tmp 8) rfl rfl ?_) | (go_at_fn ga;refine (HA.out _ kC.bw).mono ?_;rintro e1 w6 ⟨rfl,hb6⟩;have hB:=kC.call (by simp) hb6) | ((with_reducible (refine aH 26 (.tmp 6) (.tmp 69) ?lx ?_));(case lx=>rfl);refine aC (hB.get 3 rfl) (aO (Sk.after g X e.x v)) rfl ak (bH _) rfl (.tmp 6) (.tmp 69) rfl rfl rfl ?_))
             have hZ:=hB.put 3 rfl (aO (Sk.after g X e.x v)) rfl;refine bodyPost_ret (aX (p:=6) (hZ.get 3 rfl) Tryz.underlying26 rfl ak rfl _ rfl) rfl ⟨?_,hZ.bw⟩;have h1:=HV.out;have h2:=HX.out;have h3:=HY.out
             unfold Sk.uj
             rw [h1,h3,h2]
             rfl
def nS (s:Sk.State) (fr fo:Bool) (wi:Int):Sk.State:=⟨s.turn,s.s0,s.s1,s.brk,s.phase,s.bI,s.colour,fr,fo,s.aP,s.t0,s.t1,wi⟩
theorem mX (g:Sk.Game) (s:Sk.State) (e:Sk.Entry):Sk.next g s e=if e.kind=Sk.dJ then Sk.uj g s e else if e.kind=Sk.jI then Sk.pass (nS s false false s.aB) else if e.kind=Sk.kL then nS s true false s.aB else if e.kind=Sk.eU then nS s false false (1 - s.turn) else nS s false false s.aB:=rfl
theorem JK (S:Nat→Prop) (g:Sk.Game) (s:Sk.State) (e:En) (w:World) (ht:s.turn=0∨s.turn=1) (hsh:e.x.kind=Sk.dJ→∀ W,Below w.heap.size w W→Calls Tryz.prog 139 #[lZ g,kW s,wF e] W fun e_ w'=>e_= .returned (kW (Sk.uj g s e.x))∧Below W.heap.size W w'):Calls Tryz.prog 81 #[lZ g,kW s,wF e] w fun e_ w'=>e_= .returned (kW (Sk.next g s e.x))∧Below w.heap.size w w':=by
 go_enter Tryz.func81,Tryz.ntmps81
 go_upto_region 0 with (fail)
 go_cut [3,4,5,6] (fun v3 v4 v5 v6 wx=>v3=ptr w.heap.size∧v4=ptr (w.heap.size+1)∧v5=ptr (w.heap.size+2)∧v6=ptr (w.heap.size+3)∧aJ w wx [(bT g,23),(aO s,26),(dU e,83),(aO Sk.zero,26)])
 case first=>
  go_wp2;go_meet;exact ⟨rfl,rfl,rfl,rfl,(((((aJ.nil w).new (by simp) (bT g) _).new (by simp) (aO s) _).new (by simp) (dU e) _).new (by simp) (aO Sk.zero) _)⟩
 case rest=>
  obtain ⟨rfl,rfl,rfl,rfl,hB⟩:=hcut;have x0:=(hB.get 2 rfl).cell (j:=0) rfl;have k0:=(hB.get 1 rfl).cell (j:=0) rfl;have Xz:=(hB.get 1 rfl).frozen 0;have k7:=(hB.get 1 rfl).cell (j:=7) rfl;have O7:=(hB.get 1 rfl).frozen 7;have k8:=(hB.get 1 rfl).cell (j:=8) rfl;have kf8:=(hB.get 1 rfl).frozen 8;have k12:=(hB.get 1 rfl).cell (j:=12) rfl;have Z5:=(hB.get 1 rfl).frozen 12
  by_cases h1:e.x.kind=Sk.dJ
  · have h11:=wt h1
    have HSH:=hide (hsh h1);have HM:=hide (show Sk.next g s e.x=(Sk.uj g s e.x) by rw [mX];rw [if_pos h1]);clear h1 hsh
    go_wp2_with (first | ((with_reducible (refine ah 23 (.tmp 3) ?lx ?_));(case lx=>rfl);refine au (hB.aA rfl) Tryz.underlying23 rfl cZ rfl (.tmp 3) rfl rfl ?_) | ((with_reducible (refine ah 26 (.tmp 4) ?lx ?_));(case lx=>rfl);refine au (hB.get 1 rfl) Tryz.underlying26 rfl ak rfl (.tmp 4) rfl rfl ?_) | ((with_reducible (refine ah 83 (.tmp 5) ?lx ?_));(case lx=>rfl);refine au (hB.get 2 rfl) Tryz.underlying83 rfl bF rfl (.tmp 5) rfl rfl ?_) | (go_at_call 139;refine (HSH.out _ hB.bw).mono ?_;rintro e1 w1 ⟨rfl,hb1⟩;have hB:=hB.call (by simp) hb1) | ((with_reducible (refine aH 26 (.tmp 6) (.tmp 13) ?lx ?_));(case lx=>rfl);refine aC (hB.get 3 rfl) (aO (Sk.uj g s e.x)) rfl ak (bH _) rfl (.tmp 6) (.tmp 13) rfl rfl rfl ?_))
    have hZ:=hB.put 3 rfl (aO (Sk.uj g s e.x)) rfl;refine bodyPost_ret (aX (p:=6) (hZ.get 3 rfl) Tryz.underlying26 rfl ak rfl _ rfl) rfl ⟨?_,hZ.bw⟩;rw [HM.out];rfl
  · have h11:=wf h1
    clear hsh
    by_cases h2:e.x.kind=Sk.jI
    · have h21:=wt h2
      have HM:=hide (show Sk.next g s e.x=(Sk.pass (nS s false false s.aB)) by rw [mX];rw [if_neg h1,if_pos h2]);have hE1:aJ w (wc.setCell ⟨w.heap.size+1,8,none⟩ (.bool false)) [(bT g,23),(aO (nS s s.free false s.aB),26),(dU e,83),(aO Sk.zero,26)]:=hB.set 1 rfl 8 _;have hE2:aJ w ((wc.setCell ⟨w.heap.size+1,8,none⟩ (.bool false)).setCell ⟨w.heap.size+1,7,none⟩ (.bool false)) [(bT g,23),(aO (nS s false false s.aB),26),(dU e,83),(aO Sk.zero,26)]:=hE1.set 1 rfl 7 _;clear h1 h2
      go_wp2_with (first | ((with_reducible (refine ah 26 (.tmp 4) ?lx ?_));(case lx=>rfl);refine au (hE2.get 1 rfl) Tryz.underlying26 rfl ak rfl (.tmp 4) rfl rfl ?_) | (go_at_call 140;refine (nK (nS s false false s.aB) ht _).mono ?_;rintro e1 w6 ⟨rfl,hb6⟩;have hE:=hE2.call (by simp) hb6) | ((with_reducible (refine aH 26 (.tmp 6) (.tmp 21) ?lx ?_));(case lx=>rfl);refine aC (hE.get 3 rfl) (aO (Sk.pass (nS s false false s.aB))) rfl ak (bH _) rfl (.tmp 6) (.tmp 21) rfl rfl rfl ?_))
      have hZ:=hE.put 3 rfl (aO (Sk.pass (nS s false false s.aB))) rfl;refine bodyPost_ret (aX (p:=6) (hZ.get 3 rfl) Tryz.underlying26 rfl ak rfl _ rfl) rfl ⟨?_,hZ.bw⟩;rw [HM.out];rfl
    · have h21:=wf h2
      by_cases h3:e.x.kind=Sk.kL
      · have h31:=wt h3
        have HM:=hide (show Sk.next g s e.x=(nS s true false s.aB) by rw [mX];rw [if_neg h1,if_neg h2,if_pos h3]);have hE1:aJ w (wc.setCell ⟨w.heap.size+1,8,none⟩ (.bool false)) [(bT g,23),(aO (nS s s.free false s.aB),26),(dU e,83),(aO Sk.zero,26)]:=hB.set 1 rfl 8 _;have hE2:aJ w ((wc.setCell ⟨w.heap.size+1,8,none⟩ (.bool false)).setCell ⟨w.heap.size+1,7,none⟩ (.bool false)) [(bT g,23),(aO (nS s false false s.aB),26),(dU e,83),(aO Sk.zero,26)]:=hE1.set 1 rfl 7 _;have hE:aJ w (((wc.setCell ⟨w.heap.size+1,8,none⟩ (.bool false)).setCell ⟨w.heap.size+1,7,none⟩ (.bool false)).setCell ⟨w.heap.size+1,7,none⟩ (.bool true)) [(bT g,23),(aO (nS s true false s.aB),26),(dU e,83),(aO Sk.zero,26)]:=hE2.set 1 rfl 7 _;clear h1 h2 h3
        go_wp2_with (first | ((with_reducible (refine ah 26 (.tmp 4) ?lx ?_));(case lx=>rfl);refine au (hE.get 1 rfl) Tryz.underlying26 rfl ak rfl (.tmp 4) rfl rfl ?_) | ((with_reducible (refine aH 26 (.tmp 6) (.tmp 25) ?lx ?_));(case lx=>rfl);refine aC (hE.get 3 rfl) (aO (nS s true false s.aB)) rfl ak (bH _) rfl (.tmp 6) (.tmp 25) rfl rfl rfl ?_))
        have hZ:=hE.put 3 rfl (aO (nS s true false s.aB)) rfl;refine bodyPost_ret (aX (p:=6) (hZ.get 3 rfl) Tryz.underlying26 rfl ak rfl _ rfl) rfl ⟨?_,hZ.bw⟩;rw [HM.out];rfl
      · have h31:=wf h3
        by_cases h4:e.x.kind=Sk.eU
        · have h41:=wt h4
          rcases ht with ht | ht
          · have ht':=ht
            rw [ht] at k0;clear ht;have HM:=hide (show Sk.next g s e.x=(nS s false false 1) by rw [mX];rw [if_neg h1,if_neg h2,if_neg h3,if_pos h4,ht'];rfl);have hE1:aJ w (wc.setCell ⟨w.heap.size+1,8,none⟩ (.bool false)) [(bT g,23),(aO (nS s s.free false s.aB),26),(dU e,83),(aO Sk.zero,26)]:=hB.set 1 rfl 8 _;have hE2:aJ w ((wc.setCell ⟨w.heap.size+1,8,none⟩ (.bool false)).setCell ⟨w.heap.size+1,7,none⟩ (.bool false)) [(bT g,23),(aO (nS s false false s.aB),26),(dU e,83),(aO Sk.zero,26)]:=hE1.set 1 rfl 7 _;have hE:aJ w (((wc.setCell ⟨w.heap.size+1,8,none⟩ (.bool false)).setCell ⟨w.heap.size+1,7,none⟩ (.bool false)).setCell ⟨w.heap.size+1,12,none⟩ (.int .i64 1)) [(bT g,23),(aO (nS s false false 1),26),(dU e,83),(aO Sk.zero,26)]:=hE2.set 1 rfl 12 _;clear h1 h2 h3 h4
            go_wp2_with (first | ((with_reducible (refine ah 26 (.tmp 4) ?lx ?_));(case lx=>rfl);refine au (hE.get 1 rfl) Tryz.underlying26 rfl ak rfl (.tmp 4) rfl rfl ?_) | ((with_reducible (refine aH 26 (.tmp 6) (.tmp 32) ?lx ?_));(case lx=>rfl);refine aC (hE.get 3 rfl) (aO (nS s false false 1)) rfl ak (bH _) rfl (.tmp 6) (.tmp 32) rfl rfl rfl ?_))
            have hZ:=hE.put 3 rfl (aO (nS s false false 1)) rfl;refine bodyPost_ret (aX (p:=6) (hZ.get 3 rfl) Tryz.underlying26 rfl ak rfl _ rfl) rfl ⟨?_,hZ.bw⟩;rw [HM.out];rfl
          · have ht':=ht
            rw [ht] at k0;clear ht;have HM:=hide (show Sk.next g s e.x=(nS s false false 0) by rw [mX];rw [if_neg h1,if_neg h2,if_neg h3,if_pos h4,ht'];rfl);have hE1:aJ w (wc.setCell ⟨w.heap.size+1,8,none⟩ (.bool false)) [(bT g,23),(aO (nS s s.free false s.aB),26),(dU e,83),(aO Sk.zero,26)]:=hB.set 1 rfl 8 _;have hE2:aJ w ((wc.setCell ⟨w.heap.size+1,8,none⟩ (.bool false)).setCell ⟨w.heap.size+1,7,none⟩ (.bool false)) [(bT g,23),(aO (nS s false false s.aB),26),(dU e,83),(aO Sk.zero,26)]:=hE1.set 1 rfl 7 _;have hE:aJ w (((wc.setCell ⟨w.heap.size+1,8,none⟩ (.bool false)).setCell ⟨w.heap.size+1,7,none⟩ (.bool false)).setCell ⟨w.heap.size+1,12,none⟩ (.int .i64 0)) [(bT g,23),(aO (nS s false false 0),26),(dU e,83),(aO Sk.zero,26)]:=hE2.set 1 rfl 12 _;clear h1 h2 h3 h4
            go_wp2_with (first | ((with_reducible (refine ah 26 (.tmp 4) ?lx ?_));(case lx=>rfl);refine au (hE.get 1 rfl) Tryz.underlying26 rfl ak rfl (.tmp 4) rfl rfl ?_) | ((with_reducible (refine aH 26 (.tmp 6) (.tmp 32) ?lx ?_));(case lx=>rfl);refine aC (hE.get 3 rfl) (aO (nS s false false 0)) rfl ak (bH _) rfl (.tmp 6) (.tmp 32) rfl rfl rfl ?_))
            have hZ:=hE.put 3 rfl (aO (nS s false false 0)) rfl;refine bodyPost_ret (aX (p:=6) (hZ.get 3 rfl) Tryz.underlying26 rfl ak rfl _ rfl) rfl ⟨?_,hZ.bw⟩;rw [HM.out];rfl
        · have h41:=wf h4
          have HM:=hide (show Sk.next g s e.x=(nS s false false s.aB) by rw [mX];rw [if_neg h1,if_neg h2,if_neg h3,if_neg h4]);have hE1:aJ w (wc.setCell ⟨w.heap.size+1,8,none⟩ (.bool false)) [(bT g,23),(aO (nS s s.free false s.aB),26),(dU e,83),(aO Sk.zero,26)]:=hB.set 1 rfl 8 _;have hE2:aJ w ((wc.setCell ⟨w.heap.size+1,8,none⟩ (.bool false)).setCell ⟨w.heap.size+1,7,none⟩ (.bool false)) [(bT g,23),(aO (nS s false false s.aB),26),(dU e,83),(aO Sk.zero,26)]:=hE1.set 1 rfl 7 _;clear h1 h2 h3 h4
          go_wp2_with (first | ((with_reducible (refine ah 26 (.tmp 4) ?lx ?_));(case lx=>rfl);refine au (hE2.get 1 rfl) Tryz.underlying26 rfl ak rfl (.tmp 4) rfl rfl ?_) | ((with_reducible (refine aH 26 (.tmp 6) (.tmp 33) ?lx ?_));(case lx=>rfl);refine aC (hE2.get 3 rfl) (aO (nS s false false s.aB)) rfl ak (bH _) rfl (.tmp 6) (.tmp 33) rfl rfl rfl ?_))
          have hZ:=hE2.put 3 rfl (aO (nS s false false s.aB)) rfl;refine bodyPost_ret (aX (p:=6) (hZ.get 3 rfl) Tryz.underlying26 rfl ak rfl _ rfl) rfl ⟨?_,hZ.bw⟩;rw [HM.out];rfl
theorem afl (s:Sk.State) (Ds:Nat) (w:World) (hS:Held w Ds (aO s) 26):oh 134 #[ptr Ds] (decide (s.aB<0)) w:=by
 refine ⟨enters_of Tryz.func134 (by kernel_rfl) rfl,fun W hb=>?_⟩;have h1:=hS.below hb;have k12:=h1.cell (j:=12) rfl;have Z5:=h1.frozen 12
 go_enter Tryz.func134,Tryz.ntmps134
 go_wp2;go_ret;exact ⟨rfl,hb⟩
def oO (s:Sk.State) (e:Sk.Entry):Bool:=s.aT || decide (e.kind≠Sk.jI∧e.kind≠Sk.kL)
theorem afs (s:Sk.State) (e:En) (Ds De:Nat) (w:World) (hS:Held w Ds (aO s) 26) (hE:Held w De (dU e) 83):oh 135 #[ptr Ds,ptr De] (oO s e.x) w:=by
 refine ⟨enters_of Tryz.func135 (by kernel_rfl) rfl,fun W hb=>?_⟩;have h1:=hS.below hb;have k8:=h1.cell (j:=8) rfl;have kf8:=h1.frozen 8;have h2:=hE.below hb;have x0:=h2.cell (j:=0) rfl;have xf0:=h2.frozen 0
 by_cases h1:s.aT=true
 · try rw [h1] at k8
   have HH:=hide (And.intro h1 trivial);clear h1
   go_enter Tryz.func135,Tryz.ntmps135
   go_wp2;go_ret;exact ⟨aN (by obtain ⟨h1,_⟩:=HH.out;first | (simp [oO,h1];done) | (simp [oO,h1];omega) | (rw [Bool.eq_iff_iff];simp [oO,h1];omega)),hb⟩
 · have h1:s.aT=false:=by simpa using h1
   try rw [h1] at k8
   by_cases h2:e.x.kind=Sk.jI
   · have Om:=wt h2
     have HH:=hide (And.intro h1 (And.intro h2 trivial));clear h1 h2
     go_enter Tryz.func135,Tryz.ntmps135
     go_wp2;go_ret;exact ⟨aN (by obtain ⟨h1,h2,_⟩:=HH.out;first | (simp [oO,h1,h2];done) | (simp [oO,h1,h2];omega) | (rw [Bool.eq_iff_iff];simp [oO,h1,h2];omega)),hb⟩
   · have Ol:=wf h2
     by_cases h3:e.x.kind=Sk.kL
     · have Lh:=wt h3
       have HH:=hide (And.intro h1 (And.intro h2 (And.intro h3 trivial)));clear h1 h2 h3
       go_enter Tryz.func135,Tryz.ntmps135
       go_wp2;go_ret;exact ⟨aN (by obtain ⟨h1,h2,h3,_⟩:=HH.out;first | (simp [oO,h1,h2,h3];done) | (simp [oO,h1,h2,h3];omega) | (rw [Bool.eq_iff_iff];simp [oO,h1,h2,h3];omega)),hb⟩
     · have Le:=wf h3
       have HH:=hide (And.intro h1 (And.intro h2 (And.intro h3 trivial)));clear h1 h2 h3
       go_enter Tryz.func135,Tryz.ntmps135
       go_wp2;go_ret;exact ⟨aN (by obtain ⟨h1,h2,h3,_⟩:=HH.out;first | (simp [oO,h1,h2,h3];done) | (simp [oO,h1,h2,h3];omega) | (rw [Bool.eq_iff_iff];simp [oO,h1,h2,h3];omega)),hb⟩
theorem afz (g:Sk.Game) (s:Sk.State) (e:En) (Dk Dg Ds De:Nat) (w:World) (hK:Held w Dk [.bool (decide (e.x.kind=Sk.dJ))] 4) (hG:Held w Dg (bT g) 23) (hS:Held w Ds (aO s) 26) (hE:Held w De (dU e) 83):oh 136 #[ptr Dk,ptr Dg,ptr Ds,ptr De] (Sk.iy g s e.x) w:=by
 refine ⟨enters_of Tryz.func136 (by kernel_rfl) rfl,fun W hb=>?_⟩;have h1:=hS.below hb;have k4:=h1.cell (j:=4) rfl;have Sj:=h1.frozen 4;have h2:=hE.below hb;have x1:=h2.cell (j:=1) rfl;have xf1:=h2.frozen 1;have h3:=hG.below hb;have g0:=h3.cell (j:=0) rfl;have YU:=h3.frozen 0;have h4:=hK.below hb;have q0:=h4.cell (j:=0) rfl;have qf0:=h4.frozen 0;have hca:=fun W=>DT s e.x.called W;obtain ⟨yc,x9⟩:∃ y,Sk.callable s e.x.called=y:=⟨_,rfl⟩
 simp only [x9] at hca
 have Yo:=hide hca;have Va:=hide x9;clear hca x9;obtain ⟨ys,hys⟩:∃ y,decide (e.x.kind=Sk.dJ)=y:=⟨_,rfl⟩;rw [hys] at q0
 cases ys
 · have hk:¬ e.x.kind=Sk.dJ:=of_decide_eq_false hys
   clear hys;have HH:=hide (And.intro hk trivial);clear hk
   go_enter Tryz.func136,Tryz.ntmps136
   go_wp2_with (first | ((with_reducible (refine ah 26 (.tmp 2) ?lx ?_));(case lx=>rfl);refine au (h1) Tryz.underlying26 rfl ak rfl (.tmp 2) rfl rfl ?_) | ((with_reducible (refine ah 26 (.tmp 2) ?lx ?_));(case lx=>rfl);refine bg (h1) Tryz.underlying26 rfl ak rfl (.tmp 2) rfl rfl ?_) | ((with_reducible (refine aI 26 (.tmp 2) ?lx ?_));(case lx=>rfl);refine bC (h1) Tryz.underlying26 rfl ak (.tmp 2) rfl rfl ?_) | (go_at_call 95;refine (Yo.out _).mono ?_;rintro e1 w1 ⟨rfl,hb1⟩;have hb:=hb.trans (hb1.mono hb.size)))
   go_ret;exact ⟨aN (by have hcl:=Va.out;obtain ⟨hk,_⟩:=HH.out;first | (simp [Sk.iy,hcl,hk];done) | (simp [Sk.iy,hcl,hk];omega) | (rw [Bool.eq_iff_iff];simp [Sk.iy,hcl,hk];omega)),hb⟩
 · have hk:e.x.kind=Sk.dJ:=of_decide_eq_true hys
   clear hys
   by_cases h4:g.kind=Sk.aW
   · have Ll:=wt h4
     by_cases h5:s.phase=Sk.dW
     · have TF:=wt h5
       by_cases h6:e.x.called=Sk.dH
       · have TI:=wt h6
         have HH:=hide (And.intro hk (And.intro h4 (And.intro h5 (And.intro h6 trivial))));clear hk h4 h5 h6
         go_enter Tryz.func136,Tryz.ntmps136
         go_wp2_with (first | ((with_reducible (refine ah 26 (.tmp 2) ?lx ?_));(case lx=>rfl);refine au (h1) Tryz.underlying26 rfl ak rfl (.tmp 2) rfl rfl ?_) | ((with_reducible (refine ah 26 (.tmp 2) ?lx ?_));(case lx=>rfl);refine bg (h1) Tryz.underlying26 rfl ak rfl (.tmp 2) rfl rfl ?_) | ((with_reducible (refine aI 26 (.tmp 2) ?lx ?_));(case lx=>rfl);refine bC (h1) Tryz.underlying26 rfl ak (.tmp 2) rfl rfl ?_) | (go_at_call 95;refine (Yo.out _).mono ?_;rintro e1 w1 ⟨rfl,hb1⟩;have hb:=hb.trans (hb1.mono hb.size)))
         go_ret;exact ⟨aN (by have hcl:=Va.out;obtain ⟨hk,h4,h5,h6,_⟩:=HH.out;first | (simp [Sk.iy,hcl,hk,h4,h5,h6];done) | (simp [Sk.iy,hcl,hk,h4,h5,h6];omega) | (rw [Bool.eq_iff_iff];simp [Sk.iy,hcl,hk,h4,h5,h6];omega)),hb⟩
       · have TG:=wf h6
         have HH:=hide (And.intro hk (And.intro h4 (And.intro h5 (And.intro h6 trivial))));clear hk h4 h5 h6
         go_enter Tryz.func136,Tryz.ntmps136
         go_wp2_with (first | ((with_reducible (refine ah 26 (.tmp 2) ?lx ?_));(case lx=>rfl);refine au (h1) Tryz.underlying26 rfl ak rfl (.tmp 2) rfl rfl ?_) | ((with_reducible (refine ah 26 (.tmp 2) ?lx ?_));(case lx=>rfl);refine bg (h1) Tryz.underlying26 rfl ak rfl (.tmp 2) rfl rfl ?_) | ((with_reducible (refine aI 26 (.tmp 2) ?lx ?_));(case lx=>rfl);refine bC (h1) Tryz.underlying26 rfl ak (.tmp 2) rfl rfl ?_) | (go_at_call 95;refine (Yo.out _).mono ?_;rintro e1 w1 ⟨rfl,hb1⟩;have hb:=hb.trans (hb1.mono hb.size)))
         go_ret;exact ⟨aN (by have hcl:=Va.out;obtain ⟨hk,h4,h5,h6,_⟩:=HH.out;first | (simp [Sk.iy,hcl,hk,h4,h5,h6];done) | (simp [Sk.iy,hcl,hk,h4,h5,h6];omega) | (rw [Bool.eq_iff_iff];simp [Sk.iy,hcl,hk,h4,h5,h6];omega)),hb⟩
     · have TD:=wf h5
       by_cases h7:e.x.called=Sk.dH
       · have TK:=wt h7
         have HH:=hide (And.intro hk (And.intro h4 (And.intro h5 (And.intro h7 trivial))));clear hk h4 h5 h7
         go_enter Tryz.func136,Tryz.ntmps136
         go_wp2_with (first | ((with_reducible (refine ah 26 (.tmp 2) ?lx ?_));(case lx=>rfl);refine au (h1) Tryz.underlying26 rfl ak rfl (.tmp 2) rfl rfl ?_) | ((with_reducible (refine ah 26 (.tmp 2) ?lx ?_));(case lx=>rfl);refine bg (h1) Tryz.underlying26 rfl ak rfl (.tmp 2) rfl rfl ?_) | ((with_reducible (refine aI 26 (.tmp 2) ?lx ?_));(case lx=>rfl);refine bC (h1) Tryz.underlying26 rfl ak (.tmp 2) rfl rfl ?_) | (go_at_call 95;refine (Yo.out _).mono ?_;rintro e1 w1 ⟨rfl,hb1⟩;have hb:=hb.trans (hb1.mono hb.size)))
         go_ret;exact ⟨aN (by have hcl:=Va.out;obtain ⟨hk,h4,h5,h7,_⟩:=HH.out;first | (simp [Sk.iy,hcl,hk,h4,h5,h7];done) | (simp [Sk.iy,hcl,hk,h4,h5,h7];omega) | (rw [Bool.eq_iff_iff];simp [Sk.iy,hcl,hk,h4,h5,h7];omega)),hb⟩
       · have TJ:=wf h7
         cases yc
         all_goals
          have HH:=hide (And.intro hk (And.intro h4 (And.intro h5 (And.intro h7 trivial))));clear hk h4 h5 h7
          go_enter Tryz.func136,Tryz.ntmps136
          go_wp2_with (first | ((with_reducible (refine ah 26 (.tmp 2) ?lx ?_));(case lx=>rfl);refine au (h1) Tryz.underlying26 rfl ak rfl (.tmp 2) rfl rfl ?_) | ((with_reducible (refine ah 26 (.tmp 2) ?lx ?_));(case lx=>rfl);refine bg (h1) Tryz.underlying26 rfl ak rfl (.tmp 2) rfl rfl ?_) | ((with_reducible (refine aI 26 (.tmp 2) ?lx ?_));(case lx=>rfl);refine bC (h1) Tryz.underlying26 rfl ak (.tmp 2) rfl rfl ?_) | (go_at_call 95;refine (Yo.out _).mono ?_;rintro e1 w1 ⟨rfl,hb1⟩;have hb:=hb.trans (hb1.mono hb.size)))
          go_ret;exact ⟨aN (by have hcl:=Va.out;obtain ⟨hk,h4,h5,h7,_⟩:=HH.out;first | (simp [Sk.iy,hcl,hk,h4,h5,h7];done) | (simp [Sk.iy,hcl,hk,h4,h5,h7];omega) | (rw [Bool.eq_iff_iff];simp [Sk.iy,hcl,hk,h4,h5,h7];omega)),hb⟩
   · have Lj:=wf h4
     have HH:=hide (And.intro hk (And.intro h4 trivial));clear hk h4
     go_enter Tryz.func136,Tryz.ntmps136
     go_wp2_with (first | ((with_reducible (refine ah 26 (.tmp 2) ?lx ?_));(case lx=>rfl);refine au (h1) Tryz.underlying26 rfl ak rfl (.tmp 2) rfl rfl ?_) | ((with_reducible (refine ah 26 (.tmp 2) ?lx ?_));(case lx=>rfl);refine bg (h1) Tryz.underlying26 rfl ak rfl (.tmp 2) rfl rfl ?_) | ((with_reducible (refine aI 26 (.tmp 2) ?lx ?_));(case lx=>rfl);refine bC (h1) Tryz.underlying26 rfl ak (.tmp 2) rfl rfl ?_) | (go_at_call 95;refine (Yo.out _).mono ?_;rintro e1 w1 ⟨rfl,hb1⟩;have hb:=hb.trans (hb1.mono hb.size)))
     go_ret;exact ⟨aN (by have hcl:=Va.out;obtain ⟨hk,h4,_⟩:=HH.out;first | (simp [Sk.iy,hcl,hk,h4];done) | (simp [Sk.iy,hcl,hk,h4];omega) | (rw [Bool.eq_iff_iff];simp [Sk.iy,hcl,hk,h4];omega)),hb⟩
namespace Sk
theorem Gw (s:State) (e:Entry):∀ (l:List ByteArray) (m:Int),sK s e m l≤m+3*l.length
 | [],m=>by rw [sK];simp
 | b::l,m=>by
   rw [sK];refine Int.le_trans (Gw s e l _) ?_;rw [List.length_cons]
   split <;> omega
theorem NT (l:List ByteArray) (b:ByteArray):count l b≤l.length:=by
 unfold count
 have:=List.length_filter_le (fun x=>decide (x=b)) l
 omega
theorem FW {g:Game} {s:State} {e:Entry} (hc:s.colour≤7) (hp:e.aV.length≤22):(judge g s e).points≤1000000∧(judge g s e).penalty≤1000000:=by
 have hn:(e.aV.length:Int)≤22:=by omega
 have hw:=He (s:=s) (e:=e) hc
 unfold judge
 split
 · unfold fD
   split
   · have h2:=Eu s e e.aV (if dY s e=2 then max (max 4 (worth s e)) (value (e.hits.headD dH)) else max 4 (worth s e)) (by
      have:=(uG (e.hits.headD dH)).2
      split <;> omega)
     exact ⟨by show (0:Int)≤1000000;decide,by show most _ _ _ _≤1000000;omega⟩
   · have:=NT e.aV dw
     refine ⟨?_,by show (0:Int)≤1000000;decide⟩
     show dL s e≤1000000
     unfold dL
     repeat' split
     all_goals omega
 · split
   · unfold eP
     split
     · exact ⟨by show (0:Int)≤1000000;decide,by show (2:Int)≤1000000;decide⟩
     · split
       · exact ⟨by show (0:Int)≤1000000;decide,by show (2:Int)≤1000000;decide⟩
       · have:=Gw s e e.aV (if jc s e then 2 else 0)
         refine ⟨?_,by show (0:Int)≤1000000;decide⟩
         show fO s e≤1000000
         unfold fO
         revert this
         split <;> intro <;> omega
   · unfold iD
     split
     · exact ⟨by show (1:Int)≤1000000;decide,by show (0:Int)≤1000000;decide⟩
     · exact ⟨by show (0:Int)≤1000000;decide,by show (0:Int)≤1000000;decide⟩
theorem Fp {g:Game} {e:Entry} (h:dV g e=0) (hk:e.kind=dJ):e.aV.length≤22:=by
 unfold dV at h
 split at h
 · simp at h
 · rw [if_neg (by simp [hk])] at h
   split at h
   · simp at h
   · rename_i hx;omega
theorem nJ {g:Game} (h:dn g=0):iH g.kind=true:=by
 rcases iM h with ⟨h,_⟩ | ⟨h,_⟩ | ⟨h,_⟩ <;> simp [iH,h]
end Sk
theorem sF (S:Nat→Prop) (g:Sk.Game) (s:Sk.State) (e:En) (w:World) (ho:Sk.Ok g s) (hk:Sk.dV g e.x=0) (hc:Sk.iy g s e.x=true) (he:iW w S e):
 Calls Tryz.prog 81 #[lZ g,kW s,wF e] w fun e_ w'=>e_= .returned (kW (Sk.next g s e.x))∧Below w.heap.size w w':=by
 refine JK S g s e w ho.inr.turn fun hs W hb=>?_;have hv:=Sk.Ap g s e.x ho.inr.colour (fun hg hp=>by have:=Sk.vM hk hs hc hg hp;omega);have hu:=Sk.FW (g:=g) (s:=s) (e:=e.x) ho.inr.colour.2 (Sk.Fp hk hs);exact GX S g s e W (Sk.nJ ho.game) (LZ ho) (he.below hb) ho.inr.s0 ho.inr.s1 ho.inr.brk ⟨hv.points,hu.1⟩ ⟨hv.penalty,hu.2⟩
theorem Oh {W:World} {n N:Nat} {k:ByteArray} {gb:Nat} (hb:W.heap[n]? =some (.map (gE N 3) 3)) (hk:Sk.iH k=true) (hg:gJ k=gb):
 (Instr.lookup 123 (.map (some n)) (.string k) false).run Tryz.prog W= .ok (Nl (N+1+gI k) (nO (gI k)).length (jg k) (gK k) gb (gq k) (fU k)) W:=by subst hg;exact fE hb hk false
theorem zZ {W:World} {n N:Nat} {k:ByteArray} {gb:Nat} (hb:W.heap[n]? =some (.map (gE N 3) 3)) (hk:Sk.iH k=true) (hg:gq k=gb):
 (Instr.lookup 123 (.map (some n)) (.string k) false).run Tryz.prog W= .ok (Nl (N+1+gI k) (nO (gI k)).length (jg k) (gK k) (gJ k) gb (fU k)) W:=by subst hg;exact fE hb hk false
theorem Rf {a n f1 f2 f3 f4 f5:Nat} {w:World}:(Instr.field 121 (Nl a n f1 f2 f3 f4 f5) 3).run Tryz.prog w= .ok (.func (.func f3) #[] #[]) w:=by kernel_rfl
theorem GI {a n f1 f2 f3 f4 f5:Nat} {w:World}:(Instr.field 121 (Nl a n f1 f2 f3 f4 f5) 4).run Tryz.prog w= .ok (.func (.func f4) #[] #[]) w:=by kernel_rfl
theorem afG (S:Nat→Prop) (g:Sk.Game) (s:Sk.State) (e:En) (Dk Dg Ds De:Nat) (w:World) (ho:Sk.Ok g s) (he:iW w S e) (hK:Held w Dk [.bool (decide (e.x.kind=Sk.dJ))] 4) (hG:Held w Dg (bT g) 23) (hS:Held w Ds (aO s) 26) (hE:Held w De (dU e) 83):oh 137 #[ptr Dk,ptr Dg,ptr Ds,ptr De] (!(decide (e.x.kind=Sk.dJ)) || Sk.l9 g s e.x) w:=by
 refine ⟨enters_of Tryz.func137 (by kernel_rfl) rfl,fun W hb=>?_⟩;have h1:=hS.below hb;have h2:=hE.below hb;have h3:=hG.below hb;have g0:=h3.cell (j:=0) rfl;have YU:=h3.frozen 0;have h4:=hK.below hb;have q0:=h4.cell (j:=0) rfl;have qf0:=h4.frozen 0;have lk:=h4.lt;have lg:=h3.lt;have hk:=Sk.nJ ho.game;have hba:=fun W (hb:Below w.heap.size w W)=>CB S g s e W ho.inr.turn (he.below hb);have eg:=BP g.kind;have rlb:=@Rf;obtain ⟨gb,hgb⟩:∃ x,gJ g.kind=x:=⟨_,rfl⟩
 simp only [hgb] at hba eg
 have HGB:=hide hgb;have HBA:=hide hba
 have xK:∀ w':World,(fun w':World=>∀ p q,p<W.heap.size→w'.cell? ⟨p,q,none⟩=W.cell? ⟨p,q,none⟩) w'→w'.rangeAt Ds 0 (aO s):=fun w' h j v hj=>by rw [h _ _ h1.lt];exact h1.range j v hj
 have hrE:∀ w':World,(fun w':World=>∀ p q,p<W.heap.size→w'.cell? ⟨p,q,none⟩=W.cell? ⟨p,q,none⟩) w'→w'.rangeAt De 0 (dU e):=fun w' h j v hj=>by rw [h _ _ h2.lt];exact h2.range j v hj
 clear hgb hba;obtain ⟨ys,hys⟩:∃ y,decide (e.x.kind=Sk.dJ)=y:=⟨_,rfl⟩;rw [hys] at q0;have HKI:=hide hys;clear hys
 cases ys
 · go_enter Tryz.func137,Tryz.ntmps137
   go_upto_region 1 with (fail)
   refine wp_region_held_drew (S:=(fun w':World=>∀ p q,p<W.heap.size→w'.cell? ⟨p,q,none⟩=W.cell? ⟨p,q,none⟩)) (by kernel_rfl) ?bW (fun hHeld=>?_)
   case bW=>exact fun p q hp=>rfl
   refine tk 0 ?_;refine tk 1 ?_;refine tk 2 ?_;refine tu 3 ?_;refine tu 4 ?_;refine tu 5 ?_;refine tu 6 ?_;refine tu 7 ?_;refine tu 8 ?_;refine tu 9 ?_;refine tu 10 ?_;refine tk 11 ?_;refine tk 12 ?_;refine wpAnyH_done (by kernel_rfl) ?_ _;go_wp2;go_ret;exact ⟨aN (by rw [HKI.out];rfl),hb.drew⟩
 · go_enter Tryz.func137,Tryz.ntmps137
   go_upto_region 1 with (fail)
   refine wp_region_held_drew (S:=(fun w':World=>∀ p q,p<W.heap.size→w'.cell? ⟨p,q,none⟩=W.cell? ⟨p,q,none⟩)) (by kernel_rfl) ?dI (fun hHeld=>?_)
   case dI=>exact fun p q hp=>rfl
   refine tk 0 ?_;refine tk 1 ?_;refine tk 2 ?_;refine tk 4 ?_;refine tk 5 ?_;refine wpAnyH_take (i:=8) (oi:=_) (v:=_) (ga rfl) (by kernel_rfl) (by kernel_rfl) (by kernel_rfl) (fun _ _ _ h=>h) (yieldsIf_load_mid (by rfl) _ _ (by rfl) _ _ (by rfl) _ _ xK Tryz.underlying26 rfl (by kernel_rfl)) (by assumption) ?_
   try simp only [Act.put,la,lz,ls]
   refine wpAnyH_take (i:=9) (oi:=_) (v:=_) (ga rfl) (by kernel_rfl) (by kernel_rfl) (by kernel_rfl) (fun _ _ _ h=>h) (yieldsIf_load_mid (by rfl) _ _ (by rfl) _ _ (by rfl) _ _ hrE Tryz.underlying83 rfl (by kernel_rfl)) (by assumption) ?_
   try simp only [Act.put,la,lz,ls]
   refine tr 3 fun K hK=>?_;go_simp
   (go_at_call 63;refine (fJ _).mono ?_;rintro e1 w1 ⟨rfl,g3⟩;have hl1:=Oh (lG (n:=W.heap.size) g3 (by simp)) hk HGB.out;have hb1:=g3.bw)
   refine hK.out _ _ ?Ql (fun hHeld=>?_)
   case Ql=>(exact fun p q hp=>hb1.cell (p:=⟨p,q,none⟩) hp)
   clear hK K
   try simp only [Act.put,la,lz,ls]
   refine tr 6 fun K hK=>?_;go_simp;refine hK.out _ _ ?Qq (fun hHeld=>?_)
   case Qq=>(exact fun p q hp=>hb1.cell (p:=⟨p,q,none⟩) hp)
   clear hK K
   try simp only [Act.put,la,lz,ls]
   refine tk 7 ?_;refine tr 10 fun K hK=>?_;go_simp
   (go_at_fn gb;refine (HBA.out _ (hb.drew.trans (hb1.mono hb.size))).mono ?_;rintro e2 w2 ⟨rfl,hb2⟩)
   refine hK.out _ _ ?Jy (fun hHeld=>?_)
   case Jy=>(exact fun p q hp=>(hb1.trans (hb2.mono hb1.size)).cell (p:=⟨p,q,none⟩) hp)
   clear hK K
   try simp only [Act.put,la,lz,ls]
   refine tk 11 ?_;refine tk 12 ?_;refine wpAnyH_done (by kernel_rfl) ?_ _;go_wp2;go_ret;exact ⟨aN (by rw [HKI.out];rfl),hb.drew.trans ((hb1.trans (hb2.mono hb1.size)).mono hb.size)⟩
theorem afN (S:Nat→Prop) (g:Sk.Game) (s:Sk.State) (e:En) (Dk Dg Ds De:Nat) (w:World) (Zr:Sk.iy g s e.x=true) (hck:Sk.dV g e.x=0) (ho:Sk.Ok g s) (he:iW w S e) (hK:Held w Dk [.bool (decide (e.x.kind=Sk.dJ))] 4) (hG:Held w Dg (bT g) 23) (hS:Held w Ds (aO s) 26) (hE:Held w De (dU e) 83):oh 138 #[ptr Dk,ptr Dg,ptr Ds,ptr De] (decide (e.x.kind=Sk.dJ→max (Sk.next g s e.x).s0 (Sk.next g s e.x).s1≤99999)) w:=by
 refine ⟨enters_of Tryz.func138 (by kernel_rfl) rfl,fun W hb=>?_⟩;have h1:=hS.below hb;have h2:=hE.below hb;have h3:=hG.below hb;have h4:=hK.below hb;have q0:=h4.cell (j:=0) rfl;have qf0:=h4.frozen 0;have HNX:=hide fun W (hb:Below w.heap.size w W)=>sF S g s e W ho hck Zr (he.below hb)
 obtain ⟨nx,hnx⟩:∃ x,Sk.next g s e.x=x:=⟨_,rfl⟩
 rw [hnx] at HNX ⊢;clear hnx Zr hck
 by_cases hk:e.x.kind=Sk.dJ
 · rw [show decide (e.x.kind=Sk.dJ)=true by simp [hk]] at q0
   rw [show decide (e.x.kind=Sk.dJ→max nx.s0 nx.s1≤99999)=decide (max nx.s0 nx.s1≤99999) by simp [hk]];clear hk
   go_enter Tryz.func138,Tryz.ntmps138
   have hZ:=Held.new W (aO Sk.zero) 26
   go_wp2_with (first | ((with_reducible (refine ah 23 (.tmp 1) ?lx ?_));(case lx=>rfl);refine au (h3) Tryz.underlying23 rfl cZ rfl (.tmp 1) rfl rfl ?_) | ((with_reducible (refine ah 23 (.tmp 1) ?lx ?_));(case lx=>rfl);refine bg (h3) Tryz.underlying23 rfl cZ rfl (.tmp 1) rfl rfl ?_) | ((with_reducible (refine aI 23 (.tmp 1) ?lx ?_));(case lx=>rfl);refine bC (h3) Tryz.underlying23 rfl cZ (.tmp 1) rfl rfl ?_) | ((with_reducible (refine ah 26 (.tmp 2) ?lx ?_));(case lx=>rfl);refine au (h1) Tryz.underlying26 rfl ak rfl (.tmp 2) rfl rfl ?_) | ((with_reducible (refine ah 26 (.tmp 2) ?lx ?_));(case lx=>rfl);refine bg (h1) Tryz.underlying26 rfl ak rfl (.tmp 2) rfl rfl ?_) | ((with_reducible (refine aI 26 (.tmp 2) ?lx ?_));(case lx=>rfl);refine bC (h1) Tryz.underlying26 rfl ak (.tmp 2) rfl rfl ?_) | ((with_reducible (refine ah 83 (.tmp 3) ?lx ?_));(case lx=>rfl);refine au (h2) Tryz.underlying83 rfl bF rfl (.tmp 3) rfl rfl ?_) | ((with_reducible (refine ah 83 (.tmp 3) ?lx ?_));(case lx=>rfl);refine bg (h2) Tryz.underlying83 rfl bF rfl (.tmp 3) rfl rfl ?_) | ((with_reducible (refine aI 83 (.tmp 3) ?lx ?_));(case lx=>rfl);refine bC (h2) Tryz.underlying83 rfl bF (.tmp 3) rfl rfl ?_) | (go_at_call 81;refine (HNX.out _ hb).mono ?_;rintro e1 w1 ⟨rfl,hb1⟩) | ((with_reducible (refine aH 26 (.tmp 5) (.tmp 11) ?lx ?_));(case lx=>rfl);refine aC (hZ') (aO nx) rfl ak (bH _) rfl (.tmp 5) (.tmp 11) rfl rfl rfl ?_))
   all_goals
    go_ret;exact ⟨aN (by rw [decide_eq_decide];omega),(hb.trans (hb1.mono hb.size)).alloc (Nat.le_trans hb.size hb1.size) _⟩
 · rw [show decide (e.x.kind=Sk.dJ)=false by simp [hk]] at q0
   rw [show decide (e.x.kind=Sk.dJ→max nx.s0 nx.s1≤99999)=true by simp [hk]];clear hk
   go_enter Tryz.func138,Tryz.ntmps138
   go_wp2;go_ret;exact ⟨rfl,hb⟩
def lgF:Nat→Nat
 | 0=>134
 | 1=>135
 | 2=>136
 | 3=>137
 | _=>138
def lgB (n D:Nat):Nat→Array Value
 | 0=> #[ptr (n+1)]
 | 1=> #[ptr (n+1),ptr (n+2)]
 | _=> #[ptr D,ptr n,ptr (n+1),ptr (n+2)]
def VK (g:Sk.Game) (s:Sk.State) (e:Sk.Entry):List Bool:=[decide (s.aB<0),oO s e,Sk.iy g s e, !(decide (e.kind=Sk.dJ)) || Sk.l9 g s e,decide (e.kind=Sk.dJ→max (Sk.next g s e).s0 (Sk.next g s e).s1≤99999)]
theorem wZ {α:Type} {p:Bool} {q:Prop} [Decidable q] {x y k:α} (h:p=true↔¬ q) (hx:x=y):(if p=true then x else k)=if q then k else y:=by
 subst hx
 by_cases hq:q
 · rw [if_pos hq,if_neg (fun e=>h.1 e hq)]
 · rw [if_neg hq,if_pos (h.2 hq)]
theorem LX (g:Sk.Game) (s:Sk.State) (e:Sk.Entry):brk 1 (VK g s e)=Sk.legal g s e:=by
 unfold Sk.legal VK brk brk brk brk brk brk oO
 refine wZ ?_ (wZ ?_ (wZ ?_ (wZ ?_ (wZ ?_ rfl))))
 · simp
 · cases s.aT <;> simp [not_or]
 · simp
 · simp only [Bool.or_eq_true,Bool.not_eq_true',decide_eq_false_iff_not,not_and]
   cases Sk.l9 g s e <;> simp
 · simp only [decide_eq_true_eq,not_and,Int.not_lt]
theorem oG (S:Nat→Prop) (g:Sk.Game) (s:Sk.State) (e:En) (w:World) (ho:Sk.Ok g s) (hk:Sk.dV g e.x=0) (he:iW w S e):Calls Tryz.prog 80 #[lZ g,kW s,wF e] w fun e_ w'=>e_= .returned (.int .i64 (Sk.legal g s e.x))∧Below w.heap.size w w':=by
 go_enter Tryz.func80,Tryz.ntmps80
 go_upto_region 0 with (fail)
 go_cut [3,4,5,6] (fun v3 v4 v5 v6 wx=>v3=ptr w.heap.size∧v4=ptr (w.heap.size+1)∧v5=ptr (w.heap.size+2)∧v6= .int .i64 0∧aJ w wx [(bT g,23),(aO s,26),(dU e,83)])
 case first=>
  go_wp2;go_meet;exact ⟨rfl,rfl,rfl,rfl,((((aJ.nil w).new (by simp) (bT g) _).new (by simp) (aO s) _).new (by simp) (dU e) _)⟩
 case rest=>
  obtain ⟨rfl,rfl,rfl,rfl,hB⟩:=hcut;have x0:=(hB.get 2 rfl).cell (j:=0) rfl;have hsz:=hB.size (by simp)
  go_upto_region 1 with (fail)
  go_cut [7] (fun v7 wx=>∃ D,v7=ptr D∧Held wx D [.bool (decide (e.x.kind=Sk.dJ))] 4∧aJ w wx [(bT g,23),(aO s,26),(dU e,83)])
  case first=>
   by_cases hk:e.x.kind=Sk.dJ
   · have hk1:=wt hk
     have hk2:decide (e.x.kind=Sk.dJ)=true:=by simp [hk]
     have HK2:=hide hk2;clear hk hk2;go_wp2;go_meet;rw [HK2.out];exact ⟨_,rfl,Held.new wc [.bool true] _,hB.alloc (by simp) _⟩
   · have hk1:=wf hk
     have hk2:decide (e.x.kind=Sk.dJ)=false:=by simp [hk]
     have HK2:=hide hk2;clear hk hk2;go_wp2;go_meet;rw [HK2.out];exact ⟨_,rfl,Held.new wc [.bool false] _,hB.alloc (by simp) _⟩
  case rest=>
   obtain ⟨D,rfl,hD4,hB4⟩:=hcut
   have hW:∀ (W:World),Below wc.heap.size wc W→∀ j (hj:j<(VK g s e.x).length),(∀ i (hi:i<(VK g s e.x).length),i<j→(VK g s e.x)[i]=true)→oh (lgF j) (lgB w.heap.size D j) (VK g s e.x)[j] W:=by
    intro W hb j hj hp;have iP:=hB4.call (by simp) hb;have Vq:=he.below iP.bw;have hG5:=iP.get 0 rfl;have hS5:=iP.get 1 rfl;have Vr:=iP.get 2 rfl;have hK5:=hD4.below hb
    match j,hj,hp with
    | 0,_,_=>exact afl s _ W hS5
    | 1,_,_=>exact afs s e _ _ W hS5 Vr
    | 2,_,_=>exact afz g s e _ _ _ _ W hK5 hG5 hS5 Vr
    | 3,_,_=>exact afG S g s e _ _ _ _ W ho Vq hK5 hG5 hS5 Vr
    | 4,_,hp=>exact afN S g s e _ _ _ _ W (hp 2 (by simp [VK]) (by omega)) hk ho Vq hK5 hG5 hS5 Vr
   have hBR:∀ t,Calls Tryz.prog 133 #[.slice (some ⟨wc.heap.size,0,none⟩) 5 5] (wc.alloc (.cells #[.func (.func 134) #[] #[ptr (w.heap.size+1)],.func (.func 135) #[] #[ptr (w.heap.size+1),ptr (w.heap.size+2)],.func (.func 136) #[] #[ptr D,ptr w.heap.size,ptr (w.heap.size+1),ptr (w.heap.size+2)],.func (.func 137) #[] #[ptr D,ptr w.heap.size,ptr (w.heap.size+1),ptr (w.heap.size+2)],.func (.func 138) #[] #[ptr D,ptr w.heap.size,ptr (w.heap.size+1),ptr (w.heap.size+2)]] t)) fun r w'=>r= .returned (.int .i64 (Sk.legal g s e.x))∧Below w.heap.size w w':=by
    intro t;refine (H9 wc.heap.size 0 5 5 lgF (lgB w.heap.size D) (VK g s e.x) _ rfl (by omega) (by simp) ?_ (hW _ ((Below.refl _ _).alloc (Nat.le_refl _) _))).mono ?_
    · intro j hj
      rw [Nat.zero_add]
      match j,hj with
      | 0,_=>exact qI _ [_,_,_,_,_] _ _ rfl 0 _ rfl
      | 1,_=>exact qI _ [_,_,_,_,_] _ _ rfl 1 _ rfl
      | 2,_=>exact qI _ [_,_,_,_,_] _ _ rfl 2 _ rfl
      | 3,_=>exact qI _ [_,_,_,_,_] _ _ rfl 3 _ rfl
      | 4,_=>exact qI _ [_,_,_,_,_] _ _ rfl 4 _ rfl
    · rintro e w' ⟨rfl,hb'⟩
      exact ⟨by rw [LX],(hB4.alloc (by simp) _).bw.trans (hb'.mono ((hB4.alloc (by simp) _).bw.size))⟩
   have HBR:=hide hBR;clear hBR hW
   go_wp2_with (go_at_call 133;refine (HBR.out _).mono ?_;rintro e w2 ⟨rfl,hb2⟩)
   go_ret;exact ⟨rfl,hb2⟩
theorem BD:∀ (k:Nat) (c:Int),Sk.jP c (k+1)=Sk.jP c k+(c+k)
 | 0,c=>by simp [Sk.jP]
 | k+1,c=>by
   rw [Sk.jP,BD k (c+1),Sk.jP]
   push_cast
   omega
theorem KN (c:Int) (h:0≤c):∀ k:Nat,(k:Int)≤8 - c→0≤Sk.jP c k∧Sk.jP c k≤8*k
 | 0,_=>by simp [Sk.jP]
 | k+1,hk=>by
   have:=KN c h k (by omega)
   rw [BD]
   omega
theorem uq (s:Sk.State) (hc:0≤s.colour∧s.colour≤7) (hre:0≤s.bI∧s.bI≤15) (w:World):Calls Tryz.prog 76 #[kW s] w fun e w'=>e= .returned (.int .i64 (Sk.left s))∧Below w.heap.size w w':=by
 go_enter Tryz.func76,Tryz.ntmps76
 go_upto_region 0 with (fail)
 go_cut [1,2] (fun v1 v2 wx=>v1=ptr w.heap.size∧v2= .int .i64 0∧aJ w wx [(aO s,26)])
 case first=>
  go_wp2;go_meet;exact ⟨rfl,rfl,((aJ.nil w).new (by simp) (aO s) _)⟩
 case rest=>
  obtain ⟨rfl,rfl,hB⟩:=hcut;have hF:=hB.aA rfl;have k4:=hF.cell (j:=4) rfl;have Sj:=hF.frozen 4;have k5:=hF.cell (j:=5) rfl;have kf5:=hF.frozen 5;have k6:=hF.cell (j:=6) rfl;have Uu:=hF.frozen 6;have k7:=hF.cell (j:=7) rfl;have O7:=hF.frozen 7;have k12:=hF.cell (j:=12) rfl;have Z5:=hF.frozen 12
  by_cases h1:0≤s.aB
  · have h11:decide (0≤s.aB)=true:=decide_eq_true h1
    have HM:=hide (show Sk.left s=0 by unfold Sk.left;rw [if_pos h1]);clear h1;go_wp2;go_ret;exact ⟨bf HM.out.symm,hB.bw⟩
  · have h11:decide (0≤s.aB)=false:=decide_eq_false h1
    by_cases h2:s.phase=Sk.iI
    · have h21:=wt h2
      rcases Bool.eq_false_or_eq_true s.free with hf | hf
      all_goals
       rw [hf] at k7;have HM:=hide (show Sk.left s=8*s.bI+27+(if s.free then 8 else 0) by unfold Sk.left;rw [if_neg h1,if_pos h2]);have HF:=hide hf;clear hf
       try clear h1 h2
       go_wp2;go_ret;exact ⟨bf (by rw [HM.out,HF.out];simp),hB.bw⟩
    · have h21:=wf h2
      by_cases h3:s.phase=Sk.dW
      · have h31:=wt h3
        have HM:=hide (show Sk.left s=8*s.bI+27+7 by unfold Sk.left;rw [if_neg h1,if_neg h2,if_pos h3]);clear h1 h2 h3;go_wp2;go_ret;exact ⟨bf (by rw [HM.out]),hB.bw⟩
      · have h31:=wf h3
        have HM:=hide (show Sk.left s=Sk.jP s.colour (8 - s.colour).toNat+(if s.free∧s.colour<7 then s.colour else 0) by unfold Sk.left;rw [if_neg h1,if_neg h2,if_neg h3]);clear h1 h2 h3;go_wp2
        go_loop [4,5] (fun v4 v5=>∃ k:Nat,(k:Int)≤8 - s.colour∧v5= .int .i64 (s.colour+k)∧v4= .int .i64 (Sk.jP s.colour k)) (fun _ v5=>(8 - intOf v5).toNat)
        case atStart=>exact ⟨0,by omega,by simp,rfl⟩
        case round=>
         obtain ⟨k,hk,rfl,rfl⟩:=hrel;have htp:=KN s.colour hc.1 k hk
         by_cases hlt:s.colour+k≤7
         · have hl1:decide (s.colour+(k:Int)≤7)=true:=decide_eq_true hlt
           have hsm:=BD k s.colour;obtain ⟨m,hm⟩:∃ m,Sk.jP s.colour k=m:=⟨_,rfl⟩;rw [hm] at hsm htp ⊢;have HS:=hide hsm;clear hsm hm;go_wp2
           go_round
           case rel=>exact ⟨k+1,by omega,congrArg (Value.int .i64) (by push_cast;omega),congrArg (Value.int .i64) (by have h:=HS.out;omega)⟩
           case measure=>simp [intOf];omega
         · have hl1:decide (s.colour+(k:Int)≤7)=false:=decide_eq_false hlt
           have hk8:(8 - s.colour).toNat=k:=by omega
           have qX:=hide (show Sk.left s=Sk.jP s.colour k+(if s.free∧s.colour<7 then s.colour else 0) by rw [HM.out,hk8]);obtain ⟨m,hm⟩:∃ m,Sk.jP s.colour k=m:=⟨_,rfl⟩;rw [hm] at htp qX ⊢;clear hk8 hm hlt
           rcases Bool.eq_false_or_eq_true s.free with hf | hf
           · rw [hf] at k7
             have HF:=hide hf;clear hf
             by_cases h7:s.colour<7
             · have h71:decide (s.colour<7)=true:=decide_eq_true h7
               go_wp2;go_ret;exact ⟨bf (by rw [qX.out,if_pos ⟨HF.out,h7⟩]),hB.bw⟩
             · have h71:decide (s.colour<7)=false:=decide_eq_false h7
               go_wp2;go_ret;exact ⟨bf (by rw [qX.out,if_neg (fun h=>by have:=h.2;omega)];omega),hB.bw⟩
           · rw [hf] at k7
             have HF:=hide hf;clear hf;go_wp2;go_ret;exact ⟨bf (by rw [qX.out,if_neg (fun h=>by have:=h.1;rw [HF.out] at this;cases this)];omega),hB.bw⟩
theorem xQ {g:Sk.Game} {s:Sk.State} (h:Sk.bP g s=0):(0≤s.colour∧s.colour≤7)∧(0≤s.bI∧s.bI≤15)∧(s.turn=0∨s.turn=1):=by
 have ho:=Sk.kG.1 h;have hi:=ho.inr;have hg:=Sk.iM ho.game;have h1:=hi.colour;have h2:=hi.bI;exact ⟨h1,by rcases hg with ⟨_,h3,_⟩ | ⟨_,h3,_⟩ | ⟨_,h3,_⟩ <;> omega,hi.turn⟩
theorem rQ (c:Int) (b:Bool) (e:Int):fst [c,iL b e]=if c≠0 then c else iL b e:=by
 unfold fst fst fst
 by_cases h:c=0
 · simp only [h,ne_eq,not_true,if_false]
   by_cases h2:iL b e=0 <;> simp [h2]
 · simp [h]
theorem wB (g:Sk.Game) (s:Sk.State) (w:World):Calls Tryz.prog 37 #[lZ g,kW s] w fun e w'=>e= .returned (.tuple #[.int .i64 (if fst [Sk.bP g s,iL (decide (g.kind≠Sk.aW)) 13]=0 then Sk.left s else 0),.int .i64 (fst [Sk.bP g s,iL (decide (g.kind≠Sk.aW)) 13])])∧Below w.heap.size w w':=by
 by_cases hg:g.kind=Sk.aW
 · have hg1:=wt hg
   have hg2:(g.kind.toList != [115,110,111,111,107,101,114])=false:=by rw [bne,hg1];rfl
   rw [show decide (g.kind≠Sk.aW)=false by simp [hg]];clear hg
   by_cases hz:fst [Sk.bP g s,iL false 13]=0
   · have hz':(fst [Sk.bP g s,iL false 13] != 0)=false:=by simp [hz]
     have hck:Sk.bP g s=0:=by rw [rQ] at hz;by_cases h:Sk.bP g s=0;exact h;rw [if_pos h] at hz;exact hz
     obtain ⟨OL,I9,_⟩:=xQ hck;rw [if_pos hz];have HZ:=hide hz;clear hz hck
     go_enter Tryz.func37,Tryz.ntmps37
     go_upto_region 0 with (fail)
     go_cut [2,3,4,5] (fun v2 v3 v4 v5 wx=>v2=ptr w.heap.size∧v3=ptr (w.heap.size+1)∧v4= .int .i64 0∧v5= .int .i64 0∧aJ w wx [(bT g,23),(aO s,26)])
     case first=>
      go_wp2;go_meet;exact ⟨rfl,rfl,rfl,rfl,(((aJ.nil w).new (by simp) (bT g) _).new (by simp) (aO s) _)⟩
     case rest=>
      obtain ⟨rfl,rfl,rfl,rfl,hB⟩:=hcut;have hsz:=hB.size (by simp)
      simp only [List.length_cons,List.length_nil] at hsz
      have k0:=(hB.aA rfl).cell (j:=0) rfl
      have hrG:∀ W:World,(fun w':World=>∀ p q,p<w.heap.size+2→w'.cell? ⟨p,q,none⟩=wc.cell? ⟨p,q,none⟩) W→W.rangeAt w.heap.size 0 (bT g):=fun W h j v hj=>by rw [h _ _ (by omega)];exact (hB.aA rfl).range j v hj
      have xK:∀ W:World,(fun w':World=>∀ p q,p<w.heap.size+2→w'.cell? ⟨p,q,none⟩=wc.cell? ⟨p,q,none⟩) W→W.rangeAt (w.heap.size+1) 0 (aO s):=fun W h j v hj=>by rw [h _ _ (by omega)];exact (hB.get 1 rfl).range j v hj
      go_upto_region 1 with (fail)
      refine wp_region_held_drew (S:=(fun w':World=>∀ p q,p<w.heap.size+2→w'.cell? ⟨p,q,none⟩=wc.cell? ⟨p,q,none⟩)) (by kernel_rfl) ?bW (fun hHeld=>?_)
      case bW=>exact fun p q h=>rfl
      refine bJ 0 hrG Tryz.underlying23 ?_;refine bJ 1 xK Tryz.underlying26 ?_;refine aF 3 ?_;refine aF 4 ?_;refine aF 5 ?_;refine aG 2 fun K hK=>?_;go_simp
      (go_at_call 18;refine (jl g s _).mono ?_;rintro e1 w1 ⟨rfl,hb1⟩;have hb8:Below wc.heap.size wc w1:=⟨hb1.os,hb1.tape,hb1.output,hb1.size,hb1.block⟩;have hB1:=hB.drew.call (by simp) hb1)
      refine ay hK (fun p q h=>hb8.cell (p:=⟨p,q,none⟩) (Nat.lt_of_lt_of_le h hsz)) fun hHeld=>?_;clear hK K;refine aG 6 fun K hK=>?_;go_simp
      (go_at_call 64;refine (dF _ _ _).mono ?_;rintro e1 pz ⟨rfl,rfl⟩)
      refine ay hK (by first | exact fun p q h=>hb8.cell (p:=⟨p,q,none⟩) (Nat.lt_of_lt_of_le h hsz) | exact fun p q h=>rfl) fun hHeld=>?_;clear hK K;refine aG 7 fun K hK=>?_;go_simp;refine ay hK (fun p q h=>(hb8.alloc hb8.size _).cell (p:=⟨p,q,none⟩) (Nat.lt_of_lt_of_le h hsz)) fun hHeld=>?_;clear hK K;refine aG 8 fun K hK=>?_;go_simp
      (go_at_call 67;refine (fZ (fun _=>True) _ _ [Sk.bP g s,iL false 13] _ (jV.row _ _ [Sk.bP g s,iL false 13] (by simp) _ trivial)).mono ?_;rintro e1 pz ⟨rfl,rfl⟩)
      refine ay hK (fun p q h=>(hb8.alloc hb8.size _).cell (p:=⟨p,q,none⟩) (Nat.lt_of_lt_of_le h hsz)) fun hHeld=>?_;clear hK K;refine aF 9 ?_;refine wpAnyH_done (by kernel_rfl) ?_ _;have kC:=hB1.alloc (by simp) (.cells #[.int .i64 (Sk.bP g s),.int .i64 (iL false 13)] 34)
      go_wp2_with (first | ((with_reducible (refine ah 26 (.tmp 3) ?lx ?_));(case lx=>rfl);refine au (kC.get 1 rfl) Tryz.underlying26 rfl ak rfl (.tmp 3) rfl rfl ?_) | (go_at_call 76;refine (uq s OL I9 _).mono ?_;rintro e1 w5 ⟨rfl,hb5⟩;have kC:=kC.call (by simp) hb5))
      go_ret2;exact ⟨by first | rfl | (rw [HZ.out];rfl),kC.bw⟩
   · have hz':(fst [Sk.bP g s,iL false 13] != 0)=true:=by simp [hz]
     rw [if_neg hz];have HZ:=hide hz;clear hz
     go_enter Tryz.func37,Tryz.ntmps37
     go_upto_region 0 with (fail)
     go_cut [2,3,4,5] (fun v2 v3 v4 v5 wx=>v2=ptr w.heap.size∧v3=ptr (w.heap.size+1)∧v4= .int .i64 0∧v5= .int .i64 0∧aJ w wx [(bT g,23),(aO s,26)])
     case first=>
      go_wp2;go_meet;exact ⟨rfl,rfl,rfl,rfl,(((aJ.nil w).new (by simp) (bT g) _).new (by simp) (aO s) _)⟩
     case rest=>
      obtain ⟨rfl,rfl,rfl,rfl,hB⟩:=hcut;have hsz:=hB.size (by simp)
      simp only [List.length_cons,List.length_nil] at hsz
      have k0:=(hB.aA rfl).cell (j:=0) rfl
      have hrG:∀ W:World,(fun w':World=>∀ p q,p<w.heap.size+2→w'.cell? ⟨p,q,none⟩=wc.cell? ⟨p,q,none⟩) W→W.rangeAt w.heap.size 0 (bT g):=fun W h j v hj=>by rw [h _ _ (by omega)];exact (hB.aA rfl).range j v hj
      have xK:∀ W:World,(fun w':World=>∀ p q,p<w.heap.size+2→w'.cell? ⟨p,q,none⟩=wc.cell? ⟨p,q,none⟩) W→W.rangeAt (w.heap.size+1) 0 (aO s):=fun W h j v hj=>by rw [h _ _ (by omega)];exact (hB.get 1 rfl).range j v hj
      go_upto_region 1 with (fail)
      refine wp_region_held_drew (S:=(fun w':World=>∀ p q,p<w.heap.size+2→w'.cell? ⟨p,q,none⟩=wc.cell? ⟨p,q,none⟩)) (by kernel_rfl) ?dI (fun hHeld=>?_)
      case dI=>exact fun p q h=>rfl
      refine bJ 0 hrG Tryz.underlying23 ?_;refine bJ 1 xK Tryz.underlying26 ?_;refine aF 3 ?_;refine aF 4 ?_;refine aF 5 ?_;refine aG 2 fun K hK=>?_;go_simp
      (go_at_call 18;refine (jl g s _).mono ?_;rintro e1 w1 ⟨rfl,hb1⟩;have hb8:Below wc.heap.size wc w1:=⟨hb1.os,hb1.tape,hb1.output,hb1.size,hb1.block⟩;have hB1:=hB.drew.call (by simp) hb1)
      refine ay hK (fun p q h=>hb8.cell (p:=⟨p,q,none⟩) (Nat.lt_of_lt_of_le h hsz)) fun hHeld=>?_;clear hK K;refine aG 6 fun K hK=>?_;go_simp
      (go_at_call 64;refine (dF _ _ _).mono ?_;rintro e1 pz ⟨rfl,rfl⟩)
      refine ay hK (by first | exact fun p q h=>hb8.cell (p:=⟨p,q,none⟩) (Nat.lt_of_lt_of_le h hsz) | exact fun p q h=>rfl) fun hHeld=>?_;clear hK K;refine aG 7 fun K hK=>?_;go_simp;refine ay hK (fun p q h=>(hb8.alloc hb8.size _).cell (p:=⟨p,q,none⟩) (Nat.lt_of_lt_of_le h hsz)) fun hHeld=>?_;clear hK K;refine aG 8 fun K hK=>?_;go_simp
      (go_at_call 67;refine (fZ (fun _=>True) _ _ [Sk.bP g s,iL false 13] _ (jV.row _ _ [Sk.bP g s,iL false 13] (by simp) _ trivial)).mono ?_;rintro e1 pz ⟨rfl,rfl⟩)
      refine ay hK (fun p q h=>(hb8.alloc hb8.size _).cell (p:=⟨p,q,none⟩) (Nat.lt_of_lt_of_le h hsz)) fun hHeld=>?_;clear hK K;refine aF 9 ?_;refine wpAnyH_done (by kernel_rfl) ?_ _;have kC:=hB1.alloc (by simp) (.cells #[.int .i64 (Sk.bP g s),.int .i64 (iL false 13)] 34);go_wp2;go_ret2;exact ⟨rfl,kC.bw⟩
 · have hg1:=wf hg
   have hg2:(g.kind.toList != [115,110,111,111,107,101,114])=true:=by rw [bne,hg1];rfl
   rw [show decide (g.kind≠Sk.aW)=true by simp [hg]];clear hg
   have hz:¬ fst [Sk.bP g s,iL true 13]=0:=by
    rw [rQ]
    by_cases h:Sk.bP g s=0
    · rw [if_neg (by simpa using h)];decide
    · rw [if_pos h];exact h
   have hz':(fst [Sk.bP g s,iL true 13] != 0)=true:=by simp [hz]
   rw [if_neg hz];have HZ:=hide hz;clear hz
   go_enter Tryz.func37,Tryz.ntmps37
   go_upto_region 0 with (fail)
   go_cut [2,3,4,5] (fun v2 v3 v4 v5 wx=>v2=ptr w.heap.size∧v3=ptr (w.heap.size+1)∧v4= .int .i64 0∧v5= .int .i64 0∧aJ w wx [(bT g,23),(aO s,26)])
   case first=>
    go_wp2;go_meet;exact ⟨rfl,rfl,rfl,rfl,(((aJ.nil w).new (by simp) (bT g) _).new (by simp) (aO s) _)⟩
   case rest=>
    obtain ⟨rfl,rfl,rfl,rfl,hB⟩:=hcut;have hsz:=hB.size (by simp)
    simp only [List.length_cons,List.length_nil] at hsz
    have k0:=(hB.aA rfl).cell (j:=0) rfl
    have hrG:∀ W:World,(fun w':World=>∀ p q,p<w.heap.size+2→w'.cell? ⟨p,q,none⟩=wc.cell? ⟨p,q,none⟩) W→W.rangeAt w.heap.size 0 (bT g):=fun W h j v hj=>by rw [h _ _ (by omega)];exact (hB.aA rfl).range j v hj
    have xK:∀ W:World,(fun w':World=>∀ p q,p<w.heap.size+2→w'.cell? ⟨p,q,none⟩=wc.cell? ⟨p,q,none⟩) W→W.rangeAt (w.heap.size+1) 0 (aO s):=fun W h j v hj=>by rw [h _ _ (by omega)];exact (hB.get 1 rfl).range j v hj
    go_upto_region 1 with (fail)
    refine wp_region_held_drew (S:=(fun w':World=>∀ p q,p<w.heap.size+2→w'.cell? ⟨p,q,none⟩=wc.cell? ⟨p,q,none⟩)) (by kernel_rfl) ?dS (fun hHeld=>?_)
    case dS=>exact fun p q h=>rfl
    refine bJ 0 hrG Tryz.underlying23 ?_;refine bJ 1 xK Tryz.underlying26 ?_;refine aF 3 ?_;refine aF 4 ?_;refine aF 5 ?_;refine aG 2 fun K hK=>?_;go_simp
    (go_at_call 18;refine (jl g s _).mono ?_;rintro e1 w1 ⟨rfl,hb1⟩;have hb8:Below wc.heap.size wc w1:=⟨hb1.os,hb1.tape,hb1.output,hb1.size,hb1.block⟩;have hB1:=hB.drew.call (by simp) hb1)
    refine ay hK (fun p q h=>hb8.cell (p:=⟨p,q,none⟩) (Nat.lt_of_lt_of_le h hsz)) fun hHeld=>?_;clear hK K;refine aG 6 fun K hK=>?_;go_simp
    (go_at_call 64;refine (dF _ _ _).mono ?_;rintro e1 pz ⟨rfl,rfl⟩)
    refine ay hK (by first | exact fun p q h=>hb8.cell (p:=⟨p,q,none⟩) (Nat.lt_of_lt_of_le h hsz) | exact fun p q h=>rfl) fun hHeld=>?_;clear hK K;refine aG 7 fun K hK=>?_;go_simp;refine ay hK (fun p q h=>(hb8.alloc hb8.size _).cell (p:=⟨p,q,none⟩) (Nat.lt_of_lt_of_le h hsz)) fun hHeld=>?_;clear hK K;refine aG 8 fun K hK=>?_;go_simp
    (go_at_call 67;refine (fZ (fun _=>True) _ _ [Sk.bP g s,iL true 13] _ (jV.row _ _ [Sk.bP g s,iL true 13] (by simp) _ trivial)).mono ?_;rintro e1 pz ⟨rfl,rfl⟩)
    refine ay hK (fun p q h=>(hb8.alloc hb8.size _).cell (p:=⟨p,q,none⟩) (Nat.lt_of_lt_of_le h hsz)) fun hHeld=>?_;clear hK K;refine aF 9 ?_;refine wpAnyH_done (by kernel_rfl) ?_ _;have kC:=hB1.alloc (by simp) (.cells #[.int .i64 (Sk.bP g s),.int .i64 (iL true 13)] 34);go_wp2;go_ret2;exact ⟨rfl,kC.bw⟩
theorem vN {g:Sk.Game} {s:Sk.State} {e:Sk.Entry} (h:iU g s e=0):Sk.Ok g s∧Sk.dV g e=0:=by
 unfold iU at h
 by_cases h1:Sk.bP g s=0
 · rw [if_neg (by simpa using h1)] at h;exact ⟨Sk.kG.1 h1,h⟩
 · rw [if_pos h1] at h;exact absurd h h1
def Pj (g:Sk.Game) (s:Sk.State) (e:Sk.Entry):Int:=if iU g s e=0 then Sk.legal g s e else 0
theorem uw (S:Nat→Prop) (g:Sk.Game) (s:Sk.State) (e:En) (w:World) (he:iW w S e):Calls Tryz.prog 45 #[lZ g,kW s,wF e] w fun e_ w'=>e_= .returned (.tuple #[.int .i64 (Pj g s e.x),.int .i64 (iU g s e.x)])∧Below w.heap.size w w':=by
 go_enter Tryz.func45,Tryz.ntmps45
 go_upto_region 0 with (fail)
 go_cut [3,4,5,6,7] (fun v3 v4 v5 v6 v7 wx=>v3=ptr w.heap.size∧v4=ptr (w.heap.size+1)∧v5=ptr (w.heap.size+2)∧v6= .int .i64 0∧v7= .int .i64 0∧aJ w wx [(bT g,23),(aO s,26),(dU e,83)])
 case first=>
  go_wp2;go_meet;exact ⟨rfl,rfl,rfl,rfl,rfl,((((aJ.nil w).new (by simp) (bT g) _).new (by simp) (aO s) _).new (by simp) (dU e) _)⟩
 case rest=>
  obtain ⟨rfl,rfl,rfl,rfl,rfl,hB⟩:=hcut
  by_cases hz:iU g s e.x=0
  · have hz':(iU g s e.x != 0)=false:=by simp [hz]
    obtain ⟨ho,hen⟩:=vN hz;have pq:=hide (show Pj g s e.x=Sk.legal g s e.x by unfold Pj;rw [if_pos hz]);have HZ:=hide hz;clear hz
    go_wp2_with (first | ((with_reducible (refine ah 23 (.tmp 3) ?lx ?_));(case lx=>rfl);refine au (hB.aA rfl) Tryz.underlying23 rfl cZ rfl (.tmp 3) rfl rfl ?_) | ((with_reducible (refine ah 26 (.tmp 4) ?lx ?_));(case lx=>rfl);refine au (hB.get 1 rfl) Tryz.underlying26 rfl ak rfl (.tmp 4) rfl rfl ?_) | ((with_reducible (refine ah 83 (.tmp 5) ?lx ?_));(case lx=>rfl);refine au (hB.get 2 rfl) Tryz.underlying83 rfl bF rfl (.tmp 5) rfl rfl ?_) | ((with_reducible (refine ah 23 (.tmp 3) ?lx ?_));(case lx=>rfl);refine au (hB1.aA rfl) Tryz.underlying23 rfl cZ rfl (.tmp 3) rfl rfl ?_) | ((with_reducible (refine ah 26 (.tmp 4) ?lx ?_));(case lx=>rfl);refine au (hB1.get 1 rfl) Tryz.underlying26 rfl ak rfl (.tmp 4) rfl rfl ?_) | ((with_reducible (refine ah 83 (.tmp 5) ?lx ?_));(case lx=>rfl);refine au (hB1.get 2 rfl) Tryz.underlying83 rfl bF rfl (.tmp 5) rfl rfl ?_) | (go_at_call 79;refine (um S g s e _ (he.below hB.bw)).mono ?_;rintro e1 w1 ⟨rfl,hb1⟩;have hB1:=hB.call (by simp) hb1) | (go_at_call 80;refine (oG S g s e _ ho hen (he.below hB1.bw)).mono ?_;rintro e1 w2 ⟨rfl,hb2⟩;have hB2:=hB1.call (by simp) hb2))
    go_ret2;exact ⟨by rw [pq.out,HZ.out];rfl,hB2.bw⟩
  · have hz':(iU g s e.x != 0)=true:=by simp [hz]
    have pq:=hide (show Pj g s e.x=0 by unfold Pj;rw [if_neg hz]);clear hz
    go_wp2_with (first | ((with_reducible (refine ah 23 (.tmp 3) ?lx ?_));(case lx=>rfl);refine au (hB.aA rfl) Tryz.underlying23 rfl cZ rfl (.tmp 3) rfl rfl ?_) | ((with_reducible (refine ah 26 (.tmp 4) ?lx ?_));(case lx=>rfl);refine au (hB.get 1 rfl) Tryz.underlying26 rfl ak rfl (.tmp 4) rfl rfl ?_) | ((with_reducible (refine ah 83 (.tmp 5) ?lx ?_));(case lx=>rfl);refine au (hB.get 2 rfl) Tryz.underlying83 rfl bF rfl (.tmp 5) rfl rfl ?_) | (go_at_call 79;refine (um S g s e _ (he.below hB.bw)).mono ?_;rintro e1 w1 ⟨rfl,hb1⟩;have hB1:=hB.call (by simp) hb1))
    go_ret2;exact ⟨by rw [pq.out];rfl,hB1.bw⟩
def XD (g:Sk.Game) (s:Sk.State) (e:Sk.Entry):Int:=fst [iU g s e,iL (decide (Pj g s e≠0)) 18]
theorem Py {g:Sk.Game} {s:Sk.State} {e:Sk.Entry} (h:XD g s e=0):iU g s e=0∧Sk.legal g s e=0:=by
 unfold XD at h
 rw [rQ] at h
 by_cases h1:iU g s e=0
 · rw [if_neg (by simpa using h1)] at h
   refine ⟨h1,?_⟩
   by_cases h2:Sk.legal g s e=0
   · exact h2
   · unfold Pj at h;rw [if_pos h1,decide_eq_true h2] at h;cases h
 · rw [if_pos h1] at h;exact absurd h h1
theorem Ji {g:Sk.Game} {s:Sk.State} {e:Sk.Entry} (h:Sk.legal g s e=0):Sk.iy g s e=true:=(Sk.uP.1 h).call
def nxS (g:Sk.Game) (s:Sk.State) (e:Sk.Entry):Sk.State:=if XD g s e=0 then Sk.next g s e else Sk.zero
theorem GR (S:Nat→Prop) (g:Sk.Game) (s:Sk.State) (e:En) (w:World) (he:iW w S e):Calls Tryz.prog 46 #[lZ g,kW s,wF e] w fun e_ w'=>e_= .returned (.tuple #[kW (nxS g s e.x),.int .i64 (XD g s e.x)])∧Below w.heap.size w w':=by
 go_enter Tryz.func46,Tryz.ntmps46
 go_upto_region 0 with (fail)
 go_cut [3,4,5,6,7] (fun v3 v4 v5 v6 v7 wx=>v3=ptr w.heap.size∧v4=ptr (w.heap.size+1)∧v5=ptr (w.heap.size+2)∧v6=ptr (w.heap.size+3)∧v7= .int .i64 0∧aJ w wx [(bT g,23),(aO s,26),(dU e,83),(aO Sk.zero,26)])
 case first=>
  go_wp2;go_meet;exact ⟨rfl,rfl,rfl,rfl,rfl,(((((aJ.nil w).new (by simp) (bT g) _).new (by simp) (aO s) _).new (by simp) (dU e) _).new (by simp) (aO Sk.zero) _)⟩
 case rest=>
  obtain ⟨rfl,rfl,rfl,rfl,rfl,hB⟩:=hcut
  by_cases hz:XD g s e.x=0
  · obtain ⟨hck,Xf⟩:=Py hz
    obtain ⟨ho,hen⟩:=vN hck;have hca:=Ji Xf
    have hl:(Pj g s e.x != 0)=false:=by unfold Pj;rw [if_pos hck];simp [Xf]
    have hz':(fst [iU g s e.x,iL false 18] != 0)=false:=by rw [rQ,if_neg (by simpa using hck)];rfl
    have HE:=hide (show nxS g s e.x=Sk.next g s e.x by unfold nxS;rw [if_pos hz]);have HZ:=hide hz;clear hz hck Xf
    go_wp2_with (first | ((with_reducible (refine ah 23 (.tmp 3) ?lx ?_));(case lx=>rfl);refine au (hB3.aA rfl) Tryz.underlying23 rfl cZ rfl (.tmp 3) rfl rfl ?_) | ((with_reducible (refine ah 26 (.tmp 4) ?lx ?_));(case lx=>rfl);refine au (hB3.get 1 rfl) Tryz.underlying26 rfl ak rfl (.tmp 4) rfl rfl ?_) | ((with_reducible (refine ah 83 (.tmp 5) ?lx ?_));(case lx=>rfl);refine au (hB3.get 2 rfl) Tryz.underlying83 rfl bF rfl (.tmp 5) rfl rfl ?_) | ((with_reducible (refine ah 23 (.tmp 3) ?lx ?_));(case lx=>rfl);refine au (hB.aA rfl) Tryz.underlying23 rfl cZ rfl (.tmp 3) rfl rfl ?_) | ((with_reducible (refine ah 26 (.tmp 4) ?lx ?_));(case lx=>rfl);refine au (hB.get 1 rfl) Tryz.underlying26 rfl ak rfl (.tmp 4) rfl rfl ?_) | ((with_reducible (refine ah 83 (.tmp 5) ?lx ?_));(case lx=>rfl);refine au (hB.get 2 rfl) Tryz.underlying83 rfl bF rfl (.tmp 5) rfl rfl ?_) | (go_at_call 45;refine (uw S g s e _ (he.below hB.bw)).mono ?_;rintro e1 w1 ⟨rfl,hb1⟩;have hB1:=hB.call (by simp) hb1) | (go_at_call 64;refine (dF _ _ _).mono ?_;rintro e1 pz ⟨rfl,rfl⟩) | (go_at_call 67;refine (fZ (fun _=>True) _ _ [iU g s e.x,iL false 18] _ (jV.row _ _ [iU g s e.x,iL false 18] (by simp) _ trivial)).mono ?_;rintro e1 pz ⟨rfl,rfl⟩;have hB3:=hB1.alloc (by simp) (.cells #[.int .i64 (iU g s e.x),.int .i64 (iL false 18)] 34)) | (go_at_call 81;refine (sF S g s e _ ho hen hca (he.below hB3.bw)).mono ?_;rintro e1 w4 ⟨rfl,hb4⟩;have hB4:=hB3.call (by simp) hb4) | ((with_reducible (refine aH 26 (.tmp 6) (.tmp 30) ?lx ?_));(case lx=>rfl);refine aC (hB4.get 3 rfl) (aO (Sk.next g s e.x)) rfl ak (bH _) rfl (.tmp 6) (.tmp 30) rfl rfl rfl ?_))
    have iP:=hB4.put 3 rfl (aO (Sk.next g s e.x)) rfl;refine bodyPost_ret (mV (p:=6) (iP.get 3 rfl) Tryz.underlying26 rfl ak rfl _ rfl) rfl ⟨?_,iP.bw⟩;rw [HE.out,HZ.out];rfl
  · obtain ⟨y,hl⟩:∃ y,(Pj g s e.x != 0)=y:=⟨_,rfl⟩
    have hE:XD g s e.x=fst [iU g s e.x,iL y 18]:=by
     have hd:decide (Pj g s e.x≠0)=y:=by rw [← hl,Bool.eq_iff_iff];simp
     unfold XD
     rw [hd]
    have hz':(fst [iU g s e.x,iL y 18] != 0)=true:=by rw [← hE];simp [hz]
    have HE:=hide (show nxS g s e.x=Sk.zero by unfold nxS;rw [if_neg hz]);have HZ:=hide hE;clear hz hE
    go_wp2_with (first | ((with_reducible (refine ah 23 (.tmp 3) ?lx ?_));(case lx=>rfl);refine au (hB.aA rfl) Tryz.underlying23 rfl cZ rfl (.tmp 3) rfl rfl ?_) | ((with_reducible (refine ah 26 (.tmp 4) ?lx ?_));(case lx=>rfl);refine au (hB.get 1 rfl) Tryz.underlying26 rfl ak rfl (.tmp 4) rfl rfl ?_) | ((with_reducible (refine ah 83 (.tmp 5) ?lx ?_));(case lx=>rfl);refine au (hB.get 2 rfl) Tryz.underlying83 rfl bF rfl (.tmp 5) rfl rfl ?_) | (go_at_call 45;refine (uw S g s e _ (he.below hB.bw)).mono ?_;rintro e1 w1 ⟨rfl,hb1⟩;have hB1:=hB.call (by simp) hb1) | (go_at_call 64;refine (dF _ _ _).mono ?_;rintro e1 pz ⟨rfl,rfl⟩) | (go_at_call 67;refine (fZ (fun _=>True) _ _ [iU g s e.x,iL y 18] _ (jV.row _ _ [iU g s e.x,iL y 18] (by simp) _ trivial)).mono ?_;rintro e1 pz ⟨rfl,rfl⟩;have hB3:=hB1.alloc (by simp) (.cells #[.int .i64 (iU g s e.x),.int .i64 (iL y 18)] 34)) | ((with_reducible (refine aH 26 (.tmp 6) (.tmp 25) ?lx ?_));(case lx=>rfl);refine aC (hB3.get 3 rfl) (aO Sk.zero) rfl ak (bH _) rfl (.tmp 6) (.tmp 25) rfl rfl rfl ?_))
    have iP:=hB3.put 3 rfl (aO Sk.zero) rfl;refine bodyPost_ret (mV (p:=6) (iP.get 3 rfl) Tryz.underlying26 rfl ak rfl _ rfl) rfl ⟨?_,iP.bw⟩;rw [HE.out,HZ.out];rfl
def Pq (g:Sk.Game) (s:Sk.State) (p:Int):Int:=fst [Sk.bP g s,iL (Sk.out p 0 1) 3,iL (decide (g.kind≠Sk.aW)) 13,iL (decide (0≤s.aB)) 20]
def YG (g:Sk.Game) (s:Sk.State) (p:Int):Int:=if Pq g s p=0 then Sk.needed s p else 0
theorem wW (c:Int) (l:List Int):fst (c::l)=if c≠0 then c else fst l:=rfl
theorem G9 {b:Bool} {e:Int} (he:e≠0):iL b e=0↔b=false:=by unfold iL;cases b <;> simp [he]
theorem Pv {g:Sk.Game} {s:Sk.State} {p:Int} (h:Pq g s p=0):Sk.bP g s=0∧(p=0∨p=1)∧g.kind=Sk.aW∧s.aB<0:=by
 unfold Pq at h
 rw [wW,wW,wW,wW] at h
 by_cases h1:Sk.bP g s=0
 · rw [if_neg (by simpa using h1)] at h
   by_cases h2:iL (Sk.out p 0 1) 3=0
   · rw [if_neg (by simpa using h2)] at h
     by_cases h3:iL (decide (g.kind≠Sk.aW)) 13=0
     · rw [if_neg (by simpa using h3)] at h
       by_cases h4:iL (decide (0≤s.aB)) 20=0
       · rw [G9 (by decide)] at h2 h3 h4
         refine ⟨h1,?_,by simpa using h3,by simpa using h4⟩
         unfold Sk.out at h2
         simp at h2
         omega
       · rw [if_pos h4] at h;exact absurd h h4
     · rw [if_pos h3] at h;exact absurd h h3
   · rw [if_pos h2] at h;exact absurd h h2
 · rw [if_pos h1] at h;exact absurd h h1
theorem Dt (s:Sk.State) (lack:Int) {p:Int} (h:Sk.score s (1 - p) - Sk.score s p - Sk.left s=lack):Sk.needed s p=max 0 ((lack+4 - 1).tdiv 4):=by subst h;rfl
theorem xG (g:Sk.Game) (s:Sk.State) (p:Int) (w:World):Calls Tryz.prog 38 #[lZ g,kW s,.int .i64 p] w fun e w'=>e= .returned (.tuple #[.int .i64 (YG g s p),.int .i64 (Pq g s p)])∧Below w.heap.size w w':=by
 go_enter Tryz.func38,Tryz.ntmps38
 go_upto_region 0 with (fail)
 go_cut [3,4,6,7] (fun v3 v4 v6 v7 wx=>v3=ptr w.heap.size∧v4=ptr (w.heap.size+1)∧v6= .int .i64 0∧v7= .int .i64 0∧aJ w wx [(bT g,23),(aO s,26)])
 case first=>
  go_wp2;go_meet;exact ⟨rfl,rfl,rfl,rfl,(((aJ.nil w).new (by simp) (bT g) _).new (by simp) (aO s) _)⟩
 case rest=>
  obtain ⟨rfl,rfl,rfl,rfl,hB⟩:=hcut;have hsz:=hB.size (by simp)
  simp only [List.length_cons,List.length_nil] at hsz
  have k0:=(hB.aA rfl).cell (j:=0) rfl;have k12:=(hB.get 1 rfl).cell (j:=12) rfl
  have hrG:∀ W:World,(fun w':World=>∀ p q,p<w.heap.size+2→w'.cell? ⟨p,q,none⟩=wc.cell? ⟨p,q,none⟩) W→W.rangeAt w.heap.size 0 (bT g):=fun W h j v hj=>by rw [h _ _ (by omega)];exact (hB.aA rfl).range j v hj
  have xK:∀ W:World,(fun w':World=>∀ p q,p<w.heap.size+2→w'.cell? ⟨p,q,none⟩=wc.cell? ⟨p,q,none⟩) W→W.rangeAt (w.heap.size+1) 0 (aO s):=fun W h j v hj=>by rw [h _ _ (by omega)];exact (hB.get 1 rfl).range j v hj
  go_upto_region 1 with (fail)
  go_cut [8] (fun v8 wx=>v8= .int .i64 (Pq g s p)∧aJ w wx [(bT g,23),(aO s,26)])
  case first=>
   have hyk:(g.kind.toList == [115,110,111,111,107,101,114])=decide (g.kind=Sk.aW):=gG _ _;have HE:=hide (show Pq g s p=fst [Sk.bP g s,iL (Sk.out p 0 1) 3,iL (!decide (g.kind=Sk.aW)) 13,iL (decide (0≤s.aB)) 20] by unfold Pq;rw [← decide_not]);obtain ⟨yk,hk2⟩:∃ y,decide (g.kind=Sk.aW)=y:=⟨_,rfl⟩;obtain ⟨yw,Ul⟩:∃ y,decide (0≤s.aB)=y:=⟨_,rfl⟩;rw [hk2] at hyk HE;rw [Ul] at HE;clear hk2;refine wp_region_held_drew (S:=(fun w':World=>∀ p q,p<w.heap.size+2→w'.cell? ⟨p,q,none⟩=wc.cell? ⟨p,q,none⟩)) (by kernel_rfl) ?bW (fun hHeld=>?_)
   case bW=>exact fun p q h=>rfl
   refine bJ 0 hrG Tryz.underlying23 ?_;refine bJ 1 xK Tryz.underlying26 ?_;refine aF 3 ?_;refine aF 6 ?_;refine aF 7 ?_;refine aF 8 ?_;refine aF 10 ?_;refine aF 11 ?_;refine aF 12 ?_;refine aG 2 fun K hK=>?_;go_simp
   (go_at_call 18;refine (jl g s _).mono ?_;rintro e1 w1 ⟨rfl,hb1⟩;have hb8:Below wc.heap.size wc w1:=⟨hb1.os,hb1.tape,hb1.output,hb1.size,hb1.block⟩;have hB1:=hB.drew.call (by simp) hb1)
   refine ay hK (fun p q h=>hb8.cell (p:=⟨p,q,none⟩) (Nat.lt_of_lt_of_le h hsz)) fun hHeld=>?_;clear hK K;refine aG 4 fun K hK=>?_;go_simp
   (go_at_call 66;refine (ji _ _ _ _).mono ?_;rintro e1 pz ⟨rfl,rfl⟩)
   refine ay hK (by first | exact fun p q h=>hb8.cell (p:=⟨p,q,none⟩) (Nat.lt_of_lt_of_le h hsz) | exact fun p q h=>rfl) fun hHeld=>?_;clear hK K;refine aG 5 fun K hK=>?_;go_simp
   (go_at_call 64;refine (dF _ _ _).mono ?_;rintro e1 pz ⟨rfl,rfl⟩)
   refine ay hK (by first | exact fun p q h=>hb8.cell (p:=⟨p,q,none⟩) (Nat.lt_of_lt_of_le h hsz) | exact fun p q h=>rfl) fun hHeld=>?_;clear hK K;refine aG 9 fun K hK=>?_;go_simp
   (go_at_call 64;refine (dF _ _ _).mono ?_;rintro e1 pz ⟨rfl,rfl⟩)
   refine ay hK (by first | exact fun p q h=>hb8.cell (p:=⟨p,q,none⟩) (Nat.lt_of_lt_of_le h hsz) | exact fun p q h=>rfl) fun hHeld=>?_;clear hK K;refine aG 13 fun K hK=>?_;go_simp
   (go_at_call 64;refine (dF _ _ _).mono ?_;rintro e1 pz ⟨rfl,rfl⟩)
   refine ay hK (by first | exact fun p q h=>hb8.cell (p:=⟨p,q,none⟩) (Nat.lt_of_lt_of_le h hsz) | exact fun p q h=>rfl) fun hHeld=>?_;clear hK K;refine aG 14 fun K hK=>?_;go_simp;refine ay hK (fun p q h=>(hb8.alloc hb8.size _).cell (p:=⟨p,q,none⟩) (Nat.lt_of_lt_of_le h hsz)) fun hHeld=>?_;clear hK K;refine aG 15 fun K hK=>?_;go_simp
   (go_at_call 67;refine (fZ (fun _=>True) _ _ [Sk.bP g s,iL (Sk.out p 0 1) 3,iL (!yk) 13,iL yw 20] _ (jV.row _ _ [Sk.bP g s,iL (Sk.out p 0 1) 3,iL (!yk) 13,iL yw 20] (by simp) _ trivial)).mono ?_;rintro e1 pz ⟨rfl,rfl⟩)
   refine ay hK (fun p q h=>(hb8.alloc hb8.size _).cell (p:=⟨p,q,none⟩) (Nat.lt_of_lt_of_le h hsz)) fun hHeld=>?_;clear hK K;refine aF 16 ?_;refine wpAnyH_done (by kernel_rfl) ?_ _;go_wp2;go_meet;exact ⟨by rw [HE.out],hB1.alloc (by simp) _⟩
  case rest=>
   obtain ⟨rfl,hB1⟩:=hcut;clear hB k0 k12 hrG xK
   by_cases hz:Pq g s p=0
   · have hz':(Pq g s p != 0)=false:=by simp [hz]
     obtain ⟨hck,hp,hgk,hwn⟩:=Pv hz;obtain ⟨OL,I9,_⟩:=xQ hck;have ho:=Sk.kG.1 hck;have hlr:=Sk.Jh ho hgk;have h0:=ho.inr.s0;have h1:=ho.inr.s1;have hf:=hB1.get 1 rfl;have k1:=hf.cell (j:=1) rfl;have k2:=hf.cell (j:=2) rfl
     have xK:∀ W:World,(fun w':World=>∀ p q,p<w.heap.size+2→w'.cell? ⟨p,q,none⟩=wc.cell? ⟨p,q,none⟩) W→W.rangeAt (w.heap.size+1) 0 (aO s):=fun W h j v hj=>by rw [h _ _ (by omega)];exact hf.range j v hj
     have HR:=hide (show YG g s p=Sk.needed s p by unfold YG;rw [if_pos hz]);have HZ:=hide hz;have hsz1:=hB1.size (by simp)
     simp only [List.length_cons,List.length_nil] at hsz1
     have hcut:=And.intro trivial hB1;clear hz hck hgk ho
     rcases hp with rfl | rfl
     · have Wh:=hide (Dt s (s.s1 - s.s0 - Sk.left s) (p:=0) (by unfold Sk.score;simp))
       obtain ⟨lf,hlf⟩:∃ x,Sk.left s=x:=⟨_,rfl⟩;rw [hlf] at hlr Wh;have HLF:=hide hlf;clear hlf
       have w1a:IntKind.i64.wrap (1 - 0)=1:=by decide
       have YK:IntKind.i64.wrap 1=1:=by decide
       have w1:IntKind.i64.wrap (s.s1 - s.s0)=s.s1 - s.s0:=by rw [IntKind.wrap_i64];omega
       have w2:IntKind.i64.wrap (s.s1 - s.s0 - lf)=s.s1 - s.s0 - lf:=by rw [IntKind.wrap_i64];omega
       go_upto_region 4 with (fail)
       go_cut [9] (fun v9 wx=>v9= .int .i64 (s.s1 - s.s0 - lf)∧aJ w wx [(bT g,23),(aO s,26)])
       case first=>
        have hsn:=uq s OL I9;rw [HLF.out] at hsn;have HSN:=hide hsn;clear hsn;refine wp_region_held_drew (S:=(fun w':World=>∀ p q,p<w.heap.size+2→w'.cell? ⟨p,q,none⟩=wc.cell? ⟨p,q,none⟩)) (by kernel_rfl) ?dI (fun hHeld=>?_)
        case dI=>exact fun p q h=>rfl
        refine aF 0 ?_;refine aF 1 ?_;refine aF 2 ?_;refine aF 3 ?_;refine aF 4 ?_;refine aF 5 ?_;refine aF 6 ?_;refine aF 7 ?_;refine aF 8 ?_;refine aF 9 ?_;refine bJ 10 xK Tryz.underlying26 ?_;refine aG 11 fun K hK=>?_;go_simp
        (go_at_call 76;refine (HSN.out _).mono ?_;rintro e1 w5 ⟨rfl,hb5⟩;have hb6:Below wc.heap.size wc w5:=⟨hb5.os,hb5.tape,hb5.output,hb5.size,hb5.block⟩;have kC:=hcut.2.drew.call (by simp) hb5)
        refine ay hK (fun p q h=>hb6.cell (p:=⟨p,q,none⟩) (Nat.lt_of_lt_of_le h hsz1)) fun hHeld=>?_;clear hK K;refine aF 12 ?_;refine aF 13 ?_;refine wpAnyH_done (by kernel_rfl) ?_ _;go_wp2;go_meet;exact ⟨rfl,kC⟩
       case rest=>
        obtain ⟨rfl,hB2⟩:=hcut;obtain ⟨lk,hlk⟩:∃ x,s.s1 - s.s0 - lf=x:=⟨_,rfl⟩
        have hl1: -200000≤lk∧lk≤200000:=by omega
        rw [hlk] at Wh ⊢
        have w3:IntKind.i64.wrap (lk+4)=lk+4:=by rw [IntKind.wrap_i64];omega
        have w4:IntKind.i64.wrap (lk+4 - 1)=lk+4 - 1:=by rw [IntKind.wrap_i64];omega
        have hq1: -60000≤(lk+4 - 1).tdiv 4∧(lk+4 - 1).tdiv 4≤60000:=by
         rcases Int.le_total 0 (lk+4 - 1) with h | h
         · rw [Int.tdiv_eq_ediv_of_nonneg h];omega
         · have h2:=Int.neg_tdiv (lk+4 - 1) 4
           rw [Int.tdiv_eq_ediv_of_nonneg (by omega)] at h2;omega
        have w5:IntKind.i64.wrap ((lk+4 - 1).tdiv 4)=(lk+4 - 1).tdiv 4:=by rw [IntKind.wrap_i64];omega
        clear hlk;go_wp2
        all_goals
         go_ret2
         exact ⟨by
          have h9:=Wh.out
          (first | rw [HR.out,h9] | rw [h9])
          (try rw [HZ.out])
          first | rfl | (rw [show max (0:Int) ((lk+4 - 1).tdiv 4)=(lk+4 - 1).tdiv 4 by omega];rfl) | (rw [show max (0:Int) ((lk+4 - 1).tdiv 4)=0 by omega];rfl),hB2.bw⟩
     · have Wh:=hide (Dt s (s.s0 - s.s1 - Sk.left s) (p:=1) (by unfold Sk.score;simp))
       obtain ⟨lf,hlf⟩:∃ x,Sk.left s=x:=⟨_,rfl⟩;rw [hlf] at hlr Wh;have HLF:=hide hlf;clear hlf
       have w1a:IntKind.i64.wrap (1 - 1)=0:=by decide
       have YK:IntKind.i64.wrap 0=0:=by decide
       have w1:IntKind.i64.wrap (s.s0 - s.s1)=s.s0 - s.s1:=by rw [IntKind.wrap_i64];omega
       have w2:IntKind.i64.wrap (s.s0 - s.s1 - lf)=s.s0 - s.s1 - lf:=by rw [IntKind.wrap_i64];omega
       go_upto_region 4 with (fail)
       go_cut [9] (fun v9 wx=>v9= .int .i64 (s.s0 - s.s1 - lf)∧aJ w wx [(bT g,23),(aO s,26)])
       case first=>
        have hsn:=uq s OL I9;rw [HLF.out] at hsn;have HSN:=hide hsn;clear hsn;refine wp_region_held_drew (S:=(fun w':World=>∀ p q,p<w.heap.size+2→w'.cell? ⟨p,q,none⟩=wc.cell? ⟨p,q,none⟩)) (by kernel_rfl) ?dS (fun hHeld=>?_)
        case dS=>exact fun p q h=>rfl
        refine aF 0 ?_;refine aF 1 ?_;refine aF 2 ?_;refine aF 3 ?_;refine aF 4 ?_;refine aF 5 ?_;refine aF 6 ?_;refine aF 7 ?_;refine aF 8 ?_;refine aF 9 ?_;refine bJ 10 xK Tryz.underlying26 ?_;refine aG 11 fun K hK=>?_;go_simp
        (go_at_call 76;refine (HSN.out _).mono ?_;rintro e1 w5 ⟨rfl,hb5⟩;have hb6:Below wc.heap.size wc w5:=⟨hb5.os,hb5.tape,hb5.output,hb5.size,hb5.block⟩;have kC:=hcut.2.drew.call (by simp) hb5)
        refine ay hK (fun p q h=>hb6.cell (p:=⟨p,q,none⟩) (Nat.lt_of_lt_of_le h hsz1)) fun hHeld=>?_;clear hK K;refine aF 12 ?_;refine aF 13 ?_;refine wpAnyH_done (by kernel_rfl) ?_ _;go_wp2;go_meet;exact ⟨rfl,kC⟩
       case rest=>
        obtain ⟨rfl,hB2⟩:=hcut;obtain ⟨lk,hlk⟩:∃ x,s.s0 - s.s1 - lf=x:=⟨_,rfl⟩
        have hl1: -200000≤lk∧lk≤200000:=by omega
        rw [hlk] at Wh ⊢
        have w3:IntKind.i64.wrap (lk+4)=lk+4:=by rw [IntKind.wrap_i64];omega
        have w4:IntKind.i64.wrap (lk+4 - 1)=lk+4 - 1:=by rw [IntKind.wrap_i64];omega
        have hq1: -60000≤(lk+4 - 1).tdiv 4∧(lk+4 - 1).tdiv 4≤60000:=by
         rcases Int.le_total 0 (lk+4 - 1) with h | h
         · rw [Int.tdiv_eq_ediv_of_nonneg h];omega
         · have h2:=Int.neg_tdiv (lk+4 - 1) 4
           rw [Int.tdiv_eq_ediv_of_nonneg (by omega)] at h2;omega
        have w5:IntKind.i64.wrap ((lk+4 - 1).tdiv 4)=(lk+4 - 1).tdiv 4:=by rw [IntKind.wrap_i64];omega
        clear hlk;go_wp2
        all_goals
         go_ret2
         exact ⟨by
          have h9:=Wh.out
          (first | rw [HR.out,h9] | rw [h9])
          (try rw [HZ.out])
          first | rfl | (rw [show max (0:Int) ((lk+4 - 1).tdiv 4)=(lk+4 - 1).tdiv 4 by omega];rfl) | (rw [show max (0:Int) ((lk+4 - 1).tdiv 4)=0 by omega];rfl),hB2.bw⟩
   · have hz':(Pq g s p != 0)=true:=by simp [hz]
     have HR:=hide (show YG g s p=0 by unfold YG;rw [if_neg hz]);clear hz;go_wp2;go_ret2;exact ⟨by first | (rw [HR.out];rfl) | rfl,hB1.bw⟩
end Go.Proofs.YtjbbfmofpjflmaaGreatDoor
