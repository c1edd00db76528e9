/- Parts of a proof. -/
import Derived.Test.YtcbmedfongiojaaGreatDoorKt21
set_option maxHeartbeats 2000000
set_option maxRecDepth 100000
set_option linter.unusedVariables false
set_option linter.unusedSimpArgs false
namespace Go.Proofs.YtcbmedfongiojaaGreatDoor
open Go.RowKit
def aS (s:Sk.State) (ph:ByteArray) (re co:Int) (fo:Bool) (wi:Int):Sk.State:=⟨s.turn,s.s0,s.s1,s.brk,ph,re,co,s.free,fo,s.aJ,s.t0,s.t1,wi⟩
theorem EY (s:Sk.State) (e:Sk.Entry) (v:Sk.fF) (r:Int) (yt:Bool) (hpf:s.phase=Sk.bJ) (hr:s.aW - Sk.count e.aV Sk.aX=r) (hy:(decide (v.iC=0∧Sk.has e.aV (Sk.bC s.colour)=true))=yt):Sk.bg s e v=(if s.colour<7 then (if yt=true then (aS s s.phase r (s.colour+1) s.aO s.ay) else (aS s s.phase r s.colour s.aO s.ay)) else if v.iC=0∧yt=false then (aS s s.phase r s.colour s.aO s.ay) else if Sk.leader (aS s s.phase r s.colour s.aO s.ay)<2 then (aS s s.phase r s.colour false (Sk.leader (aS s s.phase r s.colour s.aO s.ay))) else if yt=true then Sk.pass (aS s s.phase r s.colour s.aO s.ay) else (aS s s.phase r s.colour s.aO s.ay)):=by
 unfold Sk.bg
 rw [if_neg (by simpa using hpf)]
 simp only [hr,hy]
 rfl
theorem xA (S:Nat→Prop) (g:Sk.Game) (s:Sk.State) (e:En) (v:Sk.fF) (w:World) (ht:s.turn=0∨s.turn=1) (hc:0≤s.colour∧s.colour≤7) (hre:0≤s.aW∧s.aW≤15) (he:je w S e):Calls Tryz.prog 112 #[rF g,lJ s,wC e,Vy v] w fun e_ w'=>e_= .returned (lJ (Sk.bg s e.x v))∧Below w.heap.size w w':=by
 obtain ⟨p4,p5,p6⟩:=he.aV.bd;have hcb:=Ci e.x.aV Sk.aX
 go_enter Tryz.func112,Tryz.ntmps112
 go_upto_region 0 with (fail)
 go_cut [4,5,6,7,8] (fun v4 v5 v6 v7 v8 wx=>v4=ptr w.heap.size∧v5=ptr (w.heap.size+1)∧v6=ptr (w.heap.size+2)∧v7=ptr (w.heap.size+3)∧v8=ptr (w.heap.size+4)∧aC w wx [(dN g,23),(aQ s,26),(fC e,41),(gB v,88),(aQ Sk.zero,26)])
 case first=>
  go_wp2;go_meet;exact ⟨rfl,rfl,rfl,rfl,rfl,((((((aC.nil w).new (by simp) (dN g) _).new (by simp) (aQ s) _).new (by simp) (fC e) _).new (by simp) (gB v) _).new (by simp) (aQ Sk.zero) _)⟩
 case rest=>
  obtain ⟨rfl,rfl,rfl,rfl,rfl,hB⟩:=hcut;have hpo:=he.aV.below hB.bw;have x3:=(hB.get 2 rfl).cell (j:=3) rfl;have s5:=(hB.get 1 rfl).cell (j:=5) rfl;have s5f:=(hB.get 1 rfl).frozen 5
  go_upto_region 1 with (fail)
  go_cut [] (fun wx=>aC w wx [(dN g,23),(aQ (aS s s.phase (s.aW - Sk.count e.x.aV Sk.aX) s.colour s.aO s.ay),26),(fC e,41),(gB v,88),(aQ Sk.zero,26)])
  case first=>
   have hwr:IntKind.i64.wrap (s.aW - Sk.count e.x.aV Sk.aX)=s.aW - Sk.count e.x.aV Sk.aX:=by rw [IntKind.wrap_i64];omega
   have hE:aC w ((wc.drewN 1).setCell ⟨w.heap.size+1,5,none⟩ (.int .i64 (s.aW - Sk.count e.x.aV Sk.aX))) [(dN g,23),(aQ (aS s s.phase (s.aW - Sk.count e.x.aV Sk.aX) s.colour s.aO s.ay),26),(fC e,41),(gB v,88),(aQ Sk.zero,26)]:=(hB.drewN 1).set 1 rfl 5 _;refine wp_region_held_drew (S:=(fun w':World=>w'.cell? ⟨w.heap.size+2,3,none⟩=wc.cell? ⟨w.heap.size+2,3,none⟩)) (by kernel_rfl) ?bU (fun hHeld=>?_)
   case bU=>exact rfl
   refine aA 0 ?_;refine aA 2 ?_;refine aA 3 ?_;refine iF 1 4 (fun K hK=>?_) fun K hK=>?_
   · go_simp
     refine au hK (rfl) fun hHeld=>?_;clear hK K;refine aB 4 fun K hK=>?_;go_simp
     (go_at_call 180;refine (iM S e.B e.b e.x.aV Sk.aX _ (hpo.drewN 1)).mono ?_;rintro e1 w9 ⟨rfl,rfl⟩)
     refine au hK (rfl) fun hHeld=>?_;clear hK K;refine aA 5 ?_;refine aA 6 ?_;refine aB 7 fun K hK=>?_;go_simp;refine au hK ((World.cell?_setCell_other _ _ _ _ (by intro h;simp at h))) fun hHeld=>?_;clear hK K;refine wpAnyH_done (by kernel_rfl) ?_ _;go_wp2;go_meet;exact hE
   · go_simp
     (go_at_call 180;refine (iM S e.B e.b e.x.aV Sk.aX _ (hpo.drewN 1)).mono ?_;rintro e1 w9 ⟨rfl,rfl⟩)
     refine au hK (rfl) fun hHeld=>?_;clear hK K;refine aB 1 fun K hK=>?_;go_simp;refine au hK (rfl) fun hHeld=>?_;clear hK K;refine aA 5 ?_;refine aA 6 ?_;refine aB 7 fun K hK=>?_;go_simp;refine au hK ((World.cell?_setCell_other _ _ _ _ (by intro h;simp at h))) fun hHeld=>?_;clear hK K;refine wpAnyH_done (by kernel_rfl) ?_ _;go_wp2;go_meet;exact hE
  case rest=>
   obtain ⟨r,hr⟩:∃ r,s.aW - Sk.count e.x.aV Sk.aX=r:=⟨_,rfl⟩;rw [hr] at hcut;have HR:=hide hr;have hB:=hcut;clear hcut x3 s5 s5f hpo;have s4:_=some (Value.string s.phase):=(hB.get 1 rfl).cell (j:=4) rfl;have s4f:=(hB.get 1 rfl).frozen 4;have s5:_=some (Value.int .i64 r):=(hB.get 1 rfl).cell (j:=5) rfl;have s6:_=some (Value.int .i64 s.colour):=(hB.get 1 rfl).cell (j:=6) rfl;have s6f:=(hB.get 1 rfl).frozen 6;have u3:=(hB.get 3 rfl).cell (j:=3) rfl;have u1:=(hB.get 3 rfl).cell (j:=1) rfl;clear hr
   by_cases hpf:s.phase=Sk.bJ
   · have hsz:=hB.size (by simp)
     simp only [List.length_cons,List.length_nil] at hsz
     have x3:=(hB.get 2 rfl).cell (j:=3) rfl;obtain ⟨n,hn⟩:∃ n:Nat,s.colour=n:=⟨s.colour.toNat,by omega⟩
     have YM:n<8:=by omega
     have hix:=fun W=>FQ n YM W
     have hbl:Sk.bC s.colour=Sk.dX[n]'YM:=by unfold Sk.bC;rw [hn,Int.toNat_natCast,List.getD_eq_getElem?_getD,List.getElem?_eq_getElem (show n<Sk.dX.length from YM)];rfl
     obtain ⟨b,hb⟩:∃ b,Sk.dX[n]'YM=b:=⟨_,rfl⟩
     simp only [hb] at hix hbl
     have hhp:=fun W (hb:Below w.heap.size w W)=>gZ S e.B e.b e.x.aV b W (he.aV.below hb);obtain ⟨yp,hyp⟩:∃ y,Sk.has e.x.aV b=y:=⟨_,rfl⟩
     simp only [hyp] at hhp
     have HHP:=hide hhp;obtain ⟨yt,Nu⟩:∃ y,decide (v.iC=0∧Sk.has e.x.aV (Sk.bC s.colour)=true)=y:=⟨_,rfl⟩;have Wy:=hide (EY s e.x v r yt hpf HR.out Nu);rw [hbl,hyp] at Nu;have HYT:=hide Nu;have HN:=hide hn;clear hhp hyp Nu hb hbl;have OZ:=wt hpf
     have ajX:(s.phase.toList != [102,105,110,97,108])=false:=by rw [bne,OZ];rfl
     clear hpf
     go_upto_region 9 with (fail)
     go_cut [9] (fun v9 wx=>v9= .bool yt∧aC w wx [(dN g,23),(aQ (aS s s.phase r s.colour s.aO s.ay),26),(fC e,41),(gB v,88),(aQ Sk.zero,26)])
     case first=>
      rw [hn] at s6
      by_cases hf:v.iC=0
      · have hf1:(v.iC == 0)=true:=by simp [hf]
        have HF:=hide hf;clear hf;refine wp_region_held_drew (S:=(fun w':World=>∀ p q,p<w.heap.size+5→w'.cell? ⟨p,q,none⟩=wc.cell? ⟨p,q,none⟩)) (by kernel_rfl) ?cu (fun hHeld=>?_)
        case cu=>exact fun p q h=>rfl
        refine aA 0 ?_;refine aA 1 ?_;refine aA 2 ?_;refine aA 3 ?_;refine aA 4 ?_;refine aA 5 ?_;refine aA 7 ?_;refine aA 8 ?_;refine aB 6 fun K hK=>?_;go_simp
        (go_at_call 181;refine (pz _).mono ?_;rintro e1 w1 ⟨rfl,hb1⟩;have hB1:=hB.drew.call (by simp) hb1;have hb8:Below wc.heap.size wc w1:=⟨hb1.os,hb1.tape,hb1.output,hb1.size,hb1.block⟩)
        refine au hK (fun p q h=>hb8.cell (p:=⟨p,q,none⟩) (Nat.lt_of_lt_of_le h hsz)) fun hHeld=>?_;clear hK K;refine aA 9 ?_;refine aB 10 fun K hK=>?_;go_simp
        (go_at_call 59;refine (HHP.out _ hB1.bw).mono ?_;rintro e1 w9 ⟨rfl,rfl⟩)
        refine au hK (fun p q h=>hb8.cell (p:=⟨p,q,none⟩) (Nat.lt_of_lt_of_le h hsz)) fun hHeld=>?_;clear hK K;refine aA 11 ?_;refine aA 12 ?_;refine wpAnyH_done (by kernel_rfl) ?_ _;go_wp2;go_meet;exact ⟨dK (by have h:=HYT.out;rw [← h];simp [HF.out]),hB1⟩
      · have hf1:(v.iC == 0)=false:=by simp [hf]
        have HF:=hide hf;clear hf;refine wp_region_held_drew (S:=(fun w':World=>∀ p q,p<w.heap.size+5→w'.cell? ⟨p,q,none⟩=wc.cell? ⟨p,q,none⟩)) (by kernel_rfl) ?dF (fun hHeld=>?_)
        case dF=>exact fun p q h=>rfl
        refine aA 0 ?_;refine aA 1 ?_;refine aA 2 ?_;refine aA 3 ?_;refine iE 4 ?_;refine iE 5 ?_;refine iE 6 ?_;refine iE 7 ?_;refine iE 8 ?_;refine iE 9 ?_;refine iE 10 ?_;refine aA 11 ?_;refine aA 12 ?_;refine wpAnyH_done (by kernel_rfl) ?_ _;go_wp2;go_meet;exact ⟨dK (by have h:=HYT.out;rw [← h];simp [HF.out]),hB.drew⟩
     case rest=>
      obtain ⟨rfl,hB1⟩:=hcut;have hB:=hB1;clear hB1 hix x3 hsz s4 s4f s5 s6 s6f u1 u3 hn;have s6:_=some (Value.int .i64 s.colour):=(hB.get 1 rfl).cell (j:=6) rfl;have s6f:=(hB.get 1 rfl).frozen 6;have u1:=(hB.get 3 rfl).cell (j:=1) rfl
      by_cases h7:s.colour<7
      · have h71:decide (s.colour<7)=true:=decide_eq_true h7
        cases yt
        · have HM:=hide (show Sk.bg s e.x v=(aS s s.phase r s.colour s.aO s.ay) by rw [Wy.out];rw [if_pos h7];rfl)
          clear h7
          go_wp2_with (first | ((with_reducible refine dh 26 5 ?_);refine dO (hB.get 1 rfl) Tryz.underlying26 ak ?_) | ((with_reducible refine isS 26 8 58 ?_);refine iZ (hB.get 4 rfl) (aQ (aS s s.phase r s.colour s.aO s.ay)) ak (bI _) ?_))
          have hZ:=hB.put 4 rfl (aQ (aS s s.phase r s.colour s.aO s.ay)) rfl;refine bodyPost_ret (aP (p:=8) (hZ.get 4 rfl) Tryz.underlying26 rfl ak rfl _ rfl) rfl ⟨?_,hZ.bw⟩;rw [HM.out];rfl
        · have HM:=hide (show Sk.bg s e.x v=(aS s s.phase r (s.colour+1) s.aO s.ay) by rw [Wy.out];rw [if_pos h7];rfl)
          have hE:aC w (wc.setCell ⟨w.heap.size+1,6,none⟩ (.int .i64 (s.colour+1))) [(dN g,23),(aQ (aS s s.phase r (s.colour+1) s.aO s.ay),26),(fC e,41),(gB v,88),(aQ Sk.zero,26)]:=hB.set 1 rfl 6 _;clear h7
          go_wp2_with (first | ((with_reducible refine dh 26 5 ?_);refine dO (hE.get 1 rfl) Tryz.underlying26 ak ?_) | ((with_reducible refine isS 26 8 58 ?_);refine iZ (hE.get 4 rfl) (aQ (aS s s.phase r (s.colour+1) s.aO s.ay)) ak (bI _) ?_))
          have hZ:=hE.put 4 rfl (aQ (aS s s.phase r (s.colour+1) s.aO s.ay)) rfl;refine bodyPost_ret (aP (p:=8) (hZ.get 4 rfl) Tryz.underlying26 rfl ak rfl _ rfl) rfl ⟨?_,hZ.bw⟩;rw [HM.out];rfl
      · have h71:decide (s.colour<7)=false:=decide_eq_false h7
        by_cases hf:v.iC=0
        · have hf1:(v.iC == 0)=true:=by simp [hf]
          cases yt
          · have HM:=hide (show Sk.bg s e.x v=(aS s s.phase r s.colour s.aO s.ay) by rw [Wy.out];rw [if_neg h7,if_pos ⟨hf,rfl⟩])
            clear h7 hf
            go_wp2_with (first | ((with_reducible refine dh 26 5 ?_);refine dO (hB.get 1 rfl) Tryz.underlying26 ak ?_) | ((with_reducible refine isS 26 8 66 ?_);refine iZ (hB.get 4 rfl) (aQ (aS s s.phase r s.colour s.aO s.ay)) ak (bI _) ?_))
            have hZ:=hB.put 4 rfl (aQ (aS s s.phase r s.colour s.aO s.ay)) rfl;refine bodyPost_ret (aP (p:=8) (hZ.get 4 rfl) Tryz.underlying26 rfl ak rfl _ rfl) rfl ⟨?_,hZ.bw⟩;rw [HM.out];rfl
          · have NH:=hide (show ¬ (v.iC=0∧true=false) by simp)
            clear hf
            by_cases hl:Sk.leader (aS s s.phase r s.colour s.aO s.ay)<2
            · have hl1:decide (Sk.leader (aS s s.phase r s.colour s.aO s.ay)<2)=true:=decide_eq_true hl
              have HM:=hide (show Sk.bg s e.x v=(aS s s.phase r s.colour false (Sk.leader (aS s s.phase r s.colour s.aO s.ay))) by rw [Wy.out];rw [if_neg h7,if_neg NH.out,if_pos hl]);have HL:=hide hl;clear hl h7
              go_wp2_with (first | ((with_reducible refine dh 26 5 ?_);refine dO (hE.get 1 rfl) Tryz.underlying26 ak ?_) | ((with_reducible refine dh 26 5 ?_);refine dO (hB.get 1 rfl) Tryz.underlying26 ak ?_) | (go_at_call 187;refine (gX (aS s s.phase r s.colour s.aO s.ay) _).mono ?_;rintro e1 w5 ⟨rfl,hb5⟩;have hB:=hB.call (by simp) hb5;have q12:=(hB.get 1 rfl).cell (j:=12) rfl;have XZ:=(hB.get 1 rfl).frozen 12;have q8:=(hB.get 1 rfl).cell (j:=8) rfl;have q8f:=(hB.get 1 rfl).frozen 8;have hE1:aC w (w5.setCell ⟨w.heap.size+1,12,none⟩ (.int .i64 (Sk.leader (aS s s.phase r s.colour s.aO s.ay)))) [(dN g,23),(aQ (aS s s.phase r s.colour s.aO (Sk.leader (aS s s.phase r s.colour s.aO s.ay))),26),(fC e,41),(gB v,88),(aQ Sk.zero,26)]:=hB.set 1 rfl 12 _;have hE:aC w ((w5.setCell ⟨w.heap.size+1,12,none⟩ (.int .i64 (Sk.leader (aS s s.phase r s.colour s.aO s.ay)))).setCell ⟨w.heap.size+1,8,none⟩ (.bool false)) [(dN g,23),(aQ (aS s s.phase r s.colour false (Sk.leader (aS s s.phase r s.colour s.aO s.ay))),26),(fC e,41),(gB v,88),(aQ Sk.zero,26)]:=hE1.set 1 rfl 8 _) | ((with_reducible refine isS 26 8 74 ?_);refine iZ (hE.get 4 rfl) (aQ (aS s s.phase r s.colour false (Sk.leader (aS s s.phase r s.colour s.aO s.ay)))) ak (bI _) ?_))
              have hZ:=hE.put 4 rfl (aQ (aS s s.phase r s.colour false (Sk.leader (aS s s.phase r s.colour s.aO s.ay)))) rfl;refine bodyPost_ret (aP (p:=8) (hZ.get 4 rfl) Tryz.underlying26 rfl ak rfl _ rfl) rfl ⟨?_,hZ.bw⟩;rw [HM.out];rfl
            · have hl1:decide (Sk.leader (aS s s.phase r s.colour s.aO s.ay)<2)=false:=decide_eq_false hl
              have HM:=hide (show Sk.bg s e.x v=(Sk.pass (aS s s.phase r s.colour s.aO s.ay)) by rw [Wy.out];rw [if_neg h7,if_neg NH.out,if_neg hl];rfl);have HL:=hide hl;clear hl h7
              go_wp2_with (first | ((with_reducible refine dh 26 5 ?_);refine dO (hB.get 1 rfl) Tryz.underlying26 ak ?_) | (go_at_call 187;refine (gX (aS s s.phase r s.colour s.aO s.ay) _).mono ?_;rintro e1 w5 ⟨rfl,hb5⟩;have hB:=hB.call (by simp) hb5;have q12:=(hB.get 1 rfl).cell (j:=12) rfl;have XZ:=(hB.get 1 rfl).frozen 12;have q8:=(hB.get 1 rfl).cell (j:=8) rfl;have q8f:=(hB.get 1 rfl).frozen 8;have hE1:aC w (w5.setCell ⟨w.heap.size+1,12,none⟩ (.int .i64 (Sk.leader (aS s s.phase r s.colour s.aO s.ay)))) [(dN g,23),(aQ (aS s s.phase r s.colour s.aO (Sk.leader (aS s s.phase r s.colour s.aO s.ay))),26),(fC e,41),(gB v,88),(aQ Sk.zero,26)]:=hB.set 1 rfl 12 _;have hE:aC w ((w5.setCell ⟨w.heap.size+1,12,none⟩ (.int .i64 (Sk.leader (aS s s.phase r s.colour s.aO s.ay)))).setCell ⟨w.heap.size+1,8,none⟩ (.bool false)) [(dN g,23),(aQ (aS s s.phase r s.colour false (Sk.leader (aS s s.phase r s.colour s.aO s.ay))),26),(fC e,41),(gB v,88),(aQ Sk.zero,26)]:=hE1.set 1 rfl 8 _) | (go_at_call 131;refine (ni (aS s s.phase r s.colour s.aO s.ay) ht _).mono ?_;rintro e1 w6 ⟨rfl,hb6⟩;have hB:=hB.call (by simp) hb6) | ((with_reducible refine isS 26 8 77 ?_);refine iZ (hB.get 4 rfl) (aQ (Sk.pass (aS s s.phase r s.colour s.aO s.ay))) ak (bI _) ?_))
              have hZ:=hB.put 4 rfl (aQ (Sk.pass (aS s s.phase r s.colour s.aO s.ay))) rfl;refine bodyPost_ret (aP (p:=8) (hZ.get 4 rfl) Tryz.underlying26 rfl ak rfl _ rfl) rfl ⟨?_,hZ.bw⟩;rw [HM.out];rfl
        · have hf1:(v.iC == 0)=false:=by simp [hf]
          cases yt
          · have NH:=hide (show ¬ (v.iC=0∧false=false) by simp [hf])
            clear hf
            by_cases hl:Sk.leader (aS s s.phase r s.colour s.aO s.ay)<2
            · have hl1:decide (Sk.leader (aS s s.phase r s.colour s.aO s.ay)<2)=true:=decide_eq_true hl
              have HM:=hide (show Sk.bg s e.x v=(aS s s.phase r s.colour false (Sk.leader (aS s s.phase r s.colour s.aO s.ay))) by rw [Wy.out];rw [if_neg h7,if_neg NH.out,if_pos hl]);have HL:=hide hl;clear hl h7
              go_wp2_with (first | ((with_reducible refine dh 26 5 ?_);refine dO (hE.get 1 rfl) Tryz.underlying26 ak ?_) | ((with_reducible refine dh 26 5 ?_);refine dO (hB.get 1 rfl) Tryz.underlying26 ak ?_) | (go_at_call 187;refine (gX (aS s s.phase r s.colour s.aO s.ay) _).mono ?_;rintro e1 w5 ⟨rfl,hb5⟩;have hB:=hB.call (by simp) hb5;have q12:=(hB.get 1 rfl).cell (j:=12) rfl;have XZ:=(hB.get 1 rfl).frozen 12;have q8:=(hB.get 1 rfl).cell (j:=8) rfl;have q8f:=(hB.get 1 rfl).frozen 8;have hE1:aC w (w5.setCell ⟨w.heap.size+1,12,none⟩ (.int .i64 (Sk.leader (aS s s.phase r s.colour s.aO s.ay)))) [(dN g,23),(aQ (aS s s.phase r s.colour s.aO (Sk.leader (aS s s.phase r s.colour s.aO s.ay))),26),(fC e,41),(gB v,88),(aQ Sk.zero,26)]:=hB.set 1 rfl 12 _;have hE:aC w ((w5.setCell ⟨w.heap.size+1,12,none⟩ (.int .i64 (Sk.leader (aS s s.phase r s.colour s.aO s.ay)))).setCell ⟨w.heap.size+1,8,none⟩ (.bool false)) [(dN g,23),(aQ (aS s s.phase r s.colour false (Sk.leader (aS s s.phase r s.colour s.aO s.ay))),26),(fC e,41),(gB v,88),(aQ Sk.zero,26)]:=hE1.set 1 rfl 8 _) | ((with_reducible refine isS 26 8 74 ?_);refine iZ (hE.get 4 rfl) (aQ (aS s s.phase r s.colour false (Sk.leader (aS s s.phase r s.colour s.aO s.ay)))) ak (bI _) ?_))
              have hZ:=hE.put 4 rfl (aQ (aS s s.phase r s.colour false (Sk.leader (aS s s.phase r s.colour s.aO s.ay)))) rfl;refine bodyPost_ret (aP (p:=8) (hZ.get 4 rfl) Tryz.underlying26 rfl ak rfl _ rfl) rfl ⟨?_,hZ.bw⟩;rw [HM.out];rfl
            · have hl1:decide (Sk.leader (aS s s.phase r s.colour s.aO s.ay)<2)=false:=decide_eq_false hl
              have HM:=hide (show Sk.bg s e.x v=(aS s s.phase r s.colour s.aO s.ay) by rw [Wy.out];rw [if_neg h7,if_neg NH.out,if_neg hl];rfl);have HL:=hide hl;clear hl h7
              go_wp2_with (first | ((with_reducible refine dh 26 5 ?_);refine dO (hB.get 1 rfl) Tryz.underlying26 ak ?_) | (go_at_call 187;refine (gX (aS s s.phase r s.colour s.aO s.ay) _).mono ?_;rintro e1 w5 ⟨rfl,hb5⟩;have hB:=hB.call (by simp) hb5;have q12:=(hB.get 1 rfl).cell (j:=12) rfl;have XZ:=(hB.get 1 rfl).frozen 12;have q8:=(hB.get 1 rfl).cell (j:=8) rfl;have q8f:=(hB.get 1 rfl).frozen 8;have hE1:aC w (w5.setCell ⟨w.heap.size+1,12,none⟩ (.int .i64 (Sk.leader (aS s s.phase r s.colour s.aO s.ay)))) [(dN g,23),(aQ (aS s s.phase r s.colour s.aO (Sk.leader (aS s s.phase r s.colour s.aO s.ay))),26),(fC e,41),(gB v,88),(aQ Sk.zero,26)]:=hB.set 1 rfl 12 _;have hE:aC w ((w5.setCell ⟨w.heap.size+1,12,none⟩ (.int .i64 (Sk.leader (aS s s.phase r s.colour s.aO s.ay)))).setCell ⟨w.heap.size+1,8,none⟩ (.bool false)) [(dN g,23),(aQ (aS s s.phase r s.colour false (Sk.leader (aS s s.phase r s.colour s.aO s.ay))),26),(fC e,41),(gB v,88),(aQ Sk.zero,26)]:=hE1.set 1 rfl 8 _) | ((with_reducible refine isS 26 8 78 ?_);refine iZ (hB.get 4 rfl) (aQ (aS s s.phase r s.colour s.aO s.ay)) ak (bI _) ?_))
              have hZ:=hB.put 4 rfl (aQ (aS s s.phase r s.colour s.aO s.ay)) rfl;refine bodyPost_ret (aP (p:=8) (hZ.get 4 rfl) Tryz.underlying26 rfl ak rfl _ rfl) rfl ⟨?_,hZ.bw⟩;rw [HM.out];rfl
          · exfalso;have h:=HYT.out;simp [hf] at h
   · have hp:s.phase≠Sk.bJ:=hpf
     have OZ:=wf hpf
     have ajX:(s.phase.toList != [102,105,110,97,108])=true:=by rw [bne,OZ];rfl
     have hr:=HR.out;clear hpf
     by_cases hpr:s.phase=Sk.gu
     · have ake:=wt hpr
       rcases Bool.eq_false_or_eq_true v.stays with hst | hst
       · rw [hst] at u3
         have HM:=hide (show Sk.bg s e.x v=(aS s Sk.bV r s.colour s.aO s.ay) by unfold Sk.bg;rw [if_pos hp];rw [if_pos ⟨hpr,hst⟩,hr];rfl);have hE:aC w (wc.setCell ⟨w.heap.size+1,4,none⟩ (.string Sk.bV)) [(dN g,23),(aQ (aS s Sk.bV r s.colour s.aO s.ay),26),(fC e,41),(gB v,88),(aQ Sk.zero,26)]:=hB.set 1 rfl 4 _;clear hp hpr hst
         go_wp2_with (first | ((with_reducible refine dh 26 5 ?_);refine dO (hE.get 1 rfl) Tryz.underlying26 ak ?_) | ((with_reducible refine isS 26 8 37 ?_);refine iZ (hE.get 4 rfl) (aQ (aS s Sk.bV r s.colour s.aO s.ay)) ak (bI _) ?_))
         have hZ:=hE.put 4 rfl (aQ (aS s Sk.bV r s.colour s.aO s.ay)) rfl;refine bodyPost_ret (aP (p:=8) (hZ.get 4 rfl) Tryz.underlying26 rfl ak rfl _ rfl) rfl ⟨?_,hZ.bw⟩;rw [HM.out];rfl
       · have Tm:=hide (show ¬ (s.phase=Sk.gu∧v.stays=true) by rw [hst];simp)
         rw [hst] at u3;clear hst hpr
         by_cases h0:0<r
         · have h01:decide (0<r)=true:=decide_eq_true h0
           have HM:=hide (show Sk.bg s e.x v=(aS s Sk.gu r s.colour s.aO s.ay) by unfold Sk.bg;rw [if_pos hp];rw [if_neg Tm.out,hr,if_pos h0];rfl);have hE:aC w (wc.setCell ⟨w.heap.size+1,4,none⟩ (.string Sk.gu)) [(dN g,23),(aQ (aS s Sk.gu r s.colour s.aO s.ay),26),(fC e,41),(gB v,88),(aQ Sk.zero,26)]:=hB.set 1 rfl 4 _;clear hp Tm h0
           go_wp2_with (first | ((with_reducible refine dh 26 5 ?_);refine dO (hE.get 1 rfl) Tryz.underlying26 ak ?_) | ((with_reducible refine isS 26 8 37 ?_);refine iZ (hE.get 4 rfl) (aQ (aS s Sk.gu r s.colour s.aO s.ay)) ak (bI _) ?_))
           have hZ:=hE.put 4 rfl (aQ (aS s Sk.gu r s.colour s.aO s.ay)) rfl;refine bodyPost_ret (aP (p:=8) (hZ.get 4 rfl) Tryz.underlying26 rfl ak rfl _ rfl) rfl ⟨?_,hZ.bw⟩;rw [HM.out];rfl
         · have h01:decide (0<r)=false:=decide_eq_false h0
           have HM:=hide (show Sk.bg s e.x v=(aS s Sk.bJ r 2 s.aO s.ay) by unfold Sk.bg;rw [if_pos hp];rw [if_neg Tm.out,hr,if_neg h0];rfl);have hE1:aC w (wc.setCell ⟨w.heap.size+1,4,none⟩ (.string Sk.bJ)) [(dN g,23),(aQ (aS s Sk.bJ r s.colour s.aO s.ay),26),(fC e,41),(gB v,88),(aQ Sk.zero,26)]:=hB.set 1 rfl 4 _;have hE:aC w ((wc.setCell ⟨w.heap.size+1,4,none⟩ (.string Sk.bJ)).setCell ⟨w.heap.size+1,6,none⟩ (.int .i64 2)) [(dN g,23),(aQ (aS s Sk.bJ r 2 s.aO s.ay),26),(fC e,41),(gB v,88),(aQ Sk.zero,26)]:=hE1.set 1 rfl 6 _;clear hp Tm h0
           go_wp2_with (first | ((with_reducible refine dh 26 5 ?_);refine dO (hE.get 1 rfl) Tryz.underlying26 ak ?_) | ((with_reducible refine isS 26 8 37 ?_);refine iZ (hE.get 4 rfl) (aQ (aS s Sk.bJ r 2 s.aO s.ay)) ak (bI _) ?_))
           have hZ:=hE.put 4 rfl (aQ (aS s Sk.bJ r 2 s.aO s.ay)) rfl;refine bodyPost_ret (aP (p:=8) (hZ.get 4 rfl) Tryz.underlying26 rfl ak rfl _ rfl) rfl ⟨?_,hZ.bw⟩;rw [HM.out];rfl
     · have ake:=wf hpr
       have Tm:=hide (show ¬ (s.phase=Sk.gu∧v.stays=true) by rintro ⟨h,_⟩;exact hpr h);clear hpr
       by_cases h0:0<r
       · have h01:decide (0<r)=true:=decide_eq_true h0
         have HM:=hide (show Sk.bg s e.x v=(aS s Sk.gu r s.colour s.aO s.ay) by unfold Sk.bg;rw [if_pos hp];rw [if_neg Tm.out,hr,if_pos h0];rfl);have hE:aC w (wc.setCell ⟨w.heap.size+1,4,none⟩ (.string Sk.gu)) [(dN g,23),(aQ (aS s Sk.gu r s.colour s.aO s.ay),26),(fC e,41),(gB v,88),(aQ Sk.zero,26)]:=hB.set 1 rfl 4 _;clear hp Tm h0
         go_wp2_with (first | ((with_reducible refine dh 26 5 ?_);refine dO (hE.get 1 rfl) Tryz.underlying26 ak ?_) | ((with_reducible refine isS 26 8 37 ?_);refine iZ (hE.get 4 rfl) (aQ (aS s Sk.gu r s.colour s.aO s.ay)) ak (bI _) ?_))
         have hZ:=hE.put 4 rfl (aQ (aS s Sk.gu r s.colour s.aO s.ay)) rfl;refine bodyPost_ret (aP (p:=8) (hZ.get 4 rfl) Tryz.underlying26 rfl ak rfl _ rfl) rfl ⟨?_,hZ.bw⟩;rw [HM.out];rfl
       · have h01:decide (0<r)=false:=decide_eq_false h0
         have HM:=hide (show Sk.bg s e.x v=(aS s Sk.bJ r 2 s.aO s.ay) by unfold Sk.bg;rw [if_pos hp];rw [if_neg Tm.out,hr,if_neg h0];rfl);have hE1:aC w (wc.setCell ⟨w.heap.size+1,4,none⟩ (.string Sk.bJ)) [(dN g,23),(aQ (aS s Sk.bJ r s.colour s.aO s.ay),26),(fC e,41),(gB v,88),(aQ Sk.zero,26)]:=hB.set 1 rfl 4 _;have hE:aC w ((wc.setCell ⟨w.heap.size+1,4,none⟩ (.string Sk.bJ)).setCell ⟨w.heap.size+1,6,none⟩ (.int .i64 2)) [(dN g,23),(aQ (aS s Sk.bJ r 2 s.aO s.ay),26),(fC e,41),(gB v,88),(aQ Sk.zero,26)]:=hE1.set 1 rfl 6 _;clear hp Tm h0
         go_wp2_with (first | ((with_reducible refine dh 26 5 ?_);refine dO (hE.get 1 rfl) Tryz.underlying26 ak ?_) | ((with_reducible refine isS 26 8 37 ?_);refine iZ (hE.get 4 rfl) (aQ (aS s Sk.bJ r 2 s.aO s.ay)) ak (bI _) ?_))
         have hZ:=hE.put 4 rfl (aQ (aS s Sk.bJ r 2 s.aO s.ay)) rfl;refine bodyPost_ret (aP (p:=8) (hZ.get 4 rfl) Tryz.underlying26 rfl ak rfl _ rfl) rfl ⟨?_,hZ.bw⟩;rw [HM.out];rfl
theorem tZ (S:Nat→Prop) (g:Sk.Game) (s:Sk.State) (e:En) (w:World) (ht:s.turn=0∨s.turn=1) (hc:0≤s.colour∧s.colour≤7) (he:je w S e):
 Calls Tryz.prog (gK g.kind) #[lJ s,wC e] w fun e_ w'=>e_= .returned (Vy (Sk.judge g s e.x))∧Below w.heap.size w w':=by
 unfold gK Sk.judge
 split
 · exact xC S s e w hc he
 · split
   · exact uh S s e w ht he
   · exact zy S s e w ht he
structure uQ (s:Sk.State):Prop where
 turn:s.turn=0∨s.turn=1
 colour:0≤s.colour∧s.colour≤7
 aW:0≤s.aW∧s.aW≤15
 aJ:0≤s.aJ∧s.aJ≤5
 t0:0≤s.t0∧s.t0≤100
 t1:0≤s.t1∧s.t1≤100
theorem mJ (S:Nat→Prop) (g:Sk.Game) (s:Sk.State) (e:En) (v:Sk.fF) (w:World) (h:uQ s) (he:je w S e):
 Calls Tryz.prog (gq g.kind) #[rF g,lJ s,wC e,Vy v] w fun e_ w'=>e_= .returned (lJ (Sk.after g s e.x v))∧Below w.heap.size w w':=by
 unfold gq Sk.after
 split
 · exact xA S g s e v w h.turn h.colour h.aW he
 · split
   · exact ug S g s e v w h.turn h.aJ he
   · exact zx g s e v w h.turn h.t0 h.t1
theorem BN (S:Nat→Prop) (g:Sk.Game) (s:Sk.State) (e:En) (w:World) (ht:s.turn=0∨s.turn=1) (he:je w S e):
 Calls Tryz.prog (gU g.kind) #[lJ s,wC e] w fun e_ w'=>e_= .returned (.bool (Sk.iY g s e.x))∧Below w.heap.size w w':=by
 unfold gU Sk.iY
 split
 · exact xB S s e w he
 · split
   · exact uY S s e w ht he
   · exact uY S s e w ht he
theorem LD {g:Sk.Game} {s:Sk.State} (h:Sk.Ok g s):uQ s:=by
 have hi:=h.inr;have hg:=Sk.gW h.game;have h1:=hi.aW;have h2:=hi.t0;have h3:=hi.t1;refine ⟨hi.turn,hi.colour,?_,hi.aJ,?_,?_⟩
 all_goals rcases hg with ⟨_,h4,_,h5⟩ | ⟨_,h4,_,h5⟩ | ⟨_,h4,_,h5⟩ <;> omega
theorem CV {g:Sk.Game} {s:Sk.State} {v:Sk.fF} (h:uQ s):uQ (if v.stays=true then Sk.jm g s v else Sk.pass (Sk.jm g s v)):=by
 have ht:=h.turn
 split
 · exact ⟨h.turn,h.colour,h.aW,h.aJ,h.t0,h.t1⟩
 · exact ⟨by show 1 - s.turn=0∨1 - s.turn=1;omega,h.colour,h.aW,by show 0≤(0:Int)∧(0:Int)≤5;omega,h.t0,h.t1⟩
def cA (s:Sk.State) (fo:Bool) (a b br:Int):Sk.State:=⟨s.turn,a,b,br,s.phase,s.aW,s.colour,false,fo,s.aJ,s.t0,s.t1,s.ay⟩
theorem GR (S:Nat→Prop) (g:Sk.Game) (s:Sk.State) (e:En) (w:World) (hk:Sk.jv g.kind=true) (hm:uQ s) (he:je w S e) (hr0:0≤s.s0∧s.s0≤99999) (hr1:0≤s.s1∧s.s1≤99999) (hrb:0≤s.brk∧s.brk≤99999)
 (hvp:0≤(Sk.judge g s e.x).points∧(Sk.judge g s e.x).points≤1000000) (hvq:0≤(Sk.judge g s e.x).penalty∧(Sk.judge g s e.x).penalty≤1000000):
 Calls Tryz.prog 130 #[rF g,lJ s,wC e] w fun e_ w'=>e_= .returned (lJ (Sk.rE g s e.x))∧Below w.heap.size w w':=by
 go_enter Tryz.func130,Tryz.ntmps130
 go_upto_region 0 with (fail)
 go_cut [3,4,5,6] (fun v3 v4 v5 v6 wx=>v3=ptr w.heap.size∧v4=ptr (w.heap.size+1)∧v5=ptr (w.heap.size+2)∧v6=ptr (w.heap.size+3)∧aC w wx [(dN g,23),(aQ s,26),(fC e,41),(aQ Sk.zero,26)])
 case first=>
  go_wp2;go_meet;exact ⟨rfl,rfl,rfl,rfl,(((((aC.nil w).new (by simp) (dN g) _).new (by simp) (aQ s) _).new (by simp) (fC e) _).new (by simp) (aQ Sk.zero) _)⟩
 case rest=>
  obtain ⟨rfl,rfl,rfl,rfl,hB⟩:=hcut;have k0:=(hB.aj rfl).cell (j:=0) rfl;have K0:=hB.keeps 4 rfl (by omega)
  go_upto_region 1 with (fail)
  go_cut [7] (fun v7 wx=>∃ D N,v7=ptr D∧Held wx D (Ak (N+1+gI g.kind) (nH (gI g.kind)).length (jk g.kind) (gV g.kind) (gU g.kind) (gK g.kind) (gq g.kind)) 141∧w.heap.size+4≤D∧aC w wx [(dN g,23),(aQ s,26),(fC e,41),(aQ Sk.zero,26)])
  case first=>
   refine wp_region_held_drew (S:=(fun w':World=>∀ p q,p<w.heap.size+4→w'.cell? ⟨p,q,none⟩=wc.cell? ⟨p,q,none⟩)) (by kernel_rfl) ?dF (fun hHeld=>?_)
   case dF=>exact K0.cell
   refine aA 1 ?_;refine aA 2 ?_;refine iF 0 4 (fun K hK=>?_) fun K hK=>?_
   · go_simp
     (first | (go_at_call 58;refine (fV _).mono ?_;rintro e w1 ⟨rfl,g3⟩;have hl1:=fB (lS (n:=wc.heap.size) g3 (by simp)) hk false;have hl2:=fun o=>fB (kT (n:=wc.heap.size) g3 (by simp) o) hk false;have K1:=(K0.drew).call g3.bw;have mA:=trivial;have hZ:=Held.new w1 zo 141;have jr:w.heap.size+4≤w1.heap.size:=K1.sz;have hB1:=(hB.drew).call (by simp) g3.bw) | (go_at_call 58;refine (fV _).mono ?_;rintro e w1 ⟨rfl,g3⟩;have hl1:=fB (lS (n:=wc.heap.size+1) g3 (by simp)) hk false;have hl2:=fun o=>fB (kT (n:=wc.heap.size+1) g3 (by simp) o) hk false;have K1:=(K0.drew.alloc _).call g3.bw;have mB:=trivial;have hZ:=(Held.newAt (g:=wc.heap.size) wc.drew zo 141 rfl).below g3.bw;have jr:w.heap.size+4≤wc.heap.size:=K0.sz;have hB1:=(hB.drew.alloc (by simp) _).call (by simp) g3.bw))
     refine au hK (K1.cell) fun hHeld=>?_;clear hK K;refine iF 3 4 (fun K hK=>?_) fun K hK=>?_
     · go_simp
       refine au hK (by first | exact K1.cell | exact (K1.alloc _).cell) fun hHeld=>?_;clear hK K;refine aB 4 fun K hK=>?_;go_simp;refine au hK (by first | (have _m:=mA;exact (K1.alloc _).cell) | exact (K0.drew.alloc _).cell) fun hHeld=>?_;clear hK K;refine aB 5 fun K hK=>?_
       first | (have _m:=mA;refine aG hZ (Ak (wc.heap.size+1+gI g.kind) (nH (gI g.kind)).length (jk g.kind) (gV g.kind) (gU g.kind) (gK g.kind) (gq g.kind)) rfl rl_info (kD _ _ _ _ _ _ _) (.tmp 7) (.tmp 14) rfl rfl rfl ?_) | (have _m:=mB;refine aG hZ (Ak ((wc.heap.size+1)+1+gI g.kind) (nH (gI g.kind)).length (jk g.kind) (gV g.kind) (gU g.kind) (gK g.kind) (gq g.kind)) rfl rl_info (kD _ _ _ _ _ _ _) (.tmp 7) (.tmp 14) rfl rfl rfl ?_)
       refine au hK (by first | (have _m:=mA;exact ((K1.alloc _).fK jr _ _).cell) | (have _m:=mB;exact (K1.fK jr _ _).cell)) fun hHeld=>?_;clear hK K;refine wpAnyH_done (by kernel_rfl) ?_ _;go_wp2;go_meet
       first | (have _m:=mA;exact ⟨_,_,rfl,hZ.whole _ rfl,jr,by first | (have _m:=mA;exact ((hB1.alloc (by simp) _).fK (by simpa using jr) _ _)) | (have _m:=mB;exact (hB1.fK (by simpa using jr) _ _))⟩) | (have _m:=mB;exact ⟨_,_,rfl,hZ.whole _ rfl,jr,by first | (have _m:=mA;exact ((hB1.alloc (by simp) _).fK (by simpa using jr) _ _)) | (have _m:=mB;exact (hB1.fK (by simpa using jr) _ _))⟩)
     · go_simp
       refine au hK (by first | (have _m:=mA;exact (K1.alloc _).cell) | exact (K0.drew.alloc _).cell) fun hHeld=>?_;clear hK K;refine aB 3 fun K hK=>?_;go_simp;refine au hK (by first | exact K1.cell | exact (K1.alloc _).cell) fun hHeld=>?_;clear hK K;refine aB 5 fun K hK=>?_
       first | (have _m:=mA;refine aG hZ (Ak (wc.heap.size+1+gI g.kind) (nH (gI g.kind)).length (jk g.kind) (gV g.kind) (gU g.kind) (gK g.kind) (gq g.kind)) rfl rl_info (kD _ _ _ _ _ _ _) (.tmp 7) (.tmp 14) rfl rfl rfl ?_) | (have _m:=mB;refine aG hZ (Ak ((wc.heap.size+1)+1+gI g.kind) (nH (gI g.kind)).length (jk g.kind) (gV g.kind) (gU g.kind) (gK g.kind) (gq g.kind)) rfl rl_info (kD _ _ _ _ _ _ _) (.tmp 7) (.tmp 14) rfl rfl rfl ?_)
       refine au hK (by first | (have _m:=mA;exact ((K1.alloc _).fK jr _ _).cell) | (have _m:=mB;exact (K1.fK jr _ _).cell)) fun hHeld=>?_;clear hK K;refine wpAnyH_done (by kernel_rfl) ?_ _;go_wp2;go_meet
       first | (have _m:=mA;exact ⟨_,_,rfl,hZ.whole _ rfl,jr,by first | (have _m:=mA;exact ((hB1.alloc (by simp) _).fK (by simpa using jr) _ _)) | (have _m:=mB;exact (hB1.fK (by simpa using jr) _ _))⟩) | (have _m:=mB;exact ⟨_,_,rfl,hZ.whole _ rfl,jr,by first | (have _m:=mA;exact ((hB1.alloc (by simp) _).fK (by simpa using jr) _ _)) | (have _m:=mB;exact (hB1.fK (by simpa using jr) _ _))⟩)
   · go_simp
     refine au hK (by first | (have _m:=mA;exact (K1.alloc _).cell) | exact (K0.drew.alloc _).cell) fun hHeld=>?_;clear hK K;refine aB 0 fun K hK=>?_;go_simp
     (first | (go_at_call 58;refine (fV _).mono ?_;rintro e w1 ⟨rfl,g3⟩;have hl1:=fB (lS (n:=wc.heap.size) g3 (by simp)) hk false;have hl2:=fun o=>fB (kT (n:=wc.heap.size) g3 (by simp) o) hk false;have K1:=(K0.drew).call g3.bw;have mA:=trivial;have hZ:=Held.new w1 zo 141;have jr:w.heap.size+4≤w1.heap.size:=K1.sz;have hB1:=(hB.drew).call (by simp) g3.bw) | (go_at_call 58;refine (fV _).mono ?_;rintro e w1 ⟨rfl,g3⟩;have hl1:=fB (lS (n:=wc.heap.size+1) g3 (by simp)) hk false;have hl2:=fun o=>fB (kT (n:=wc.heap.size+1) g3 (by simp) o) hk false;have K1:=(K0.drew.alloc _).call g3.bw;have mB:=trivial;have hZ:=(Held.newAt (g:=wc.heap.size) wc.drew zo 141 rfl).below g3.bw;have jr:w.heap.size+4≤wc.heap.size:=K0.sz;have hB1:=(hB.drew.alloc (by simp) _).call (by simp) g3.bw))
     refine au hK (K1.cell) fun hHeld=>?_;clear hK K;refine aB 3 fun K hK=>?_;go_simp;refine au hK (by first | exact K1.cell | exact (K1.alloc _).cell) fun hHeld=>?_;clear hK K;refine aB 5 fun K hK=>?_
     first | (have _m:=mA;refine aG hZ (Ak (wc.heap.size+1+gI g.kind) (nH (gI g.kind)).length (jk g.kind) (gV g.kind) (gU g.kind) (gK g.kind) (gq g.kind)) rfl rl_info (kD _ _ _ _ _ _ _) (.tmp 7) (.tmp 14) rfl rfl rfl ?_) | (have _m:=mB;refine aG hZ (Ak ((wc.heap.size+1)+1+gI g.kind) (nH (gI g.kind)).length (jk g.kind) (gV g.kind) (gU g.kind) (gK g.kind) (gq g.kind)) rfl rl_info (kD _ _ _ _ _ _ _) (.tmp 7) (.tmp 14) rfl rfl rfl ?_)
     refine au hK (by first | (have _m:=mA;exact ((K1.alloc _).fK jr _ _).cell) | (have _m:=mB;exact (K1.fK jr _ _).cell)) fun hHeld=>?_;clear hK K;refine wpAnyH_done (by kernel_rfl) ?_ _;go_wp2;go_meet
     first | (have _m:=mA;exact ⟨_,_,rfl,hZ.whole _ rfl,jr,by first | (have _m:=mA;exact ((hB1.alloc (by simp) _).fK (by simpa using jr) _ _)) | (have _m:=mB;exact (hB1.fK (by simpa using jr) _ _))⟩) | (have _m:=mB;exact ⟨_,_,rfl,hZ.whole _ rfl,jr,by first | (have _m:=mA;exact ((hB1.alloc (by simp) _).fK (by simpa using jr) _ _)) | (have _m:=mB;exact (hB1.fK (by simpa using jr) _ _))⟩)
  case rest=>
   obtain ⟨D,N,rfl,hR,hD,hB1⟩:=hcut;have hB:=hB1;clear hB1 k0 K0;obtain ⟨v,hv⟩:∃ v,Sk.judge g s e.x=v:=⟨_,rfl⟩;have Xn:=fun W (hb:Below w.heap.size w W)=>tZ S g s e W hm.turn hm.colour (he.below hb);have f4:=hR.cell (j:=4) rfl;have eg:=tV g.kind;obtain ⟨gj,hgj⟩:∃ x,gK g.kind=x:=⟨_,rfl⟩
   simp only [hgj,hv] at Xn f4 eg
   have HJ:=hide Xn;have HV:=hide hv;rw [hv] at hvp hvq;clear Xn hgj hv
   go_upto_region 2 with (fail)
   go_cut [8] (fun v8 wx=>∃ Dv,v8=ptr Dv∧Held wx Dv (gB v) 88∧wc.heap.size≤Dv∧Below wc.heap.size wc wx)
   case first=>
    go_wp2_with (first | ((with_reducible refine dh 26 4 ?_);refine dO (hB.get 1 rfl) Tryz.underlying26 ak ?_) | ((with_reducible refine dh 41 5 ?_);refine dO (hB.get 2 rfl) Tryz.underlying41 bY ?_) | (go_at_fn gj;refine (HJ.out _ hB.bw).mono ?_;rintro e1 w5 ⟨rfl,hb5⟩;have hZ:=Held.new w5 (gB ⟨0,0,0,false⟩) 88) | ((with_reducible refine isS 88 8 19 ?_);refine iZ (hZ) (gB v) dR (jM _) ?_))
    go_meet;exact ⟨_,rfl,hZ.whole (gB v) rfl,hb5.size,below_setCells _ hb5.size _ _ _ _ (hb5.alloc hb5.size _)⟩
   case rest=>
    obtain ⟨Dv,rfl,hVd,hDv,hbv⟩:=hcut;have hR2:=hR.below hbv;have hB2:=hB.call (by simp) hbv;have hDl:=hR.lt;clear f4 eg HJ;have k0:=(hB2.get 1 rfl).cell (j:=0) rfl
    go_upto_region 4 with (fail)
    go_cut [10] (fun v10 wx=>∃ Dn,v10=ptr Dn∧Held wx Dn (aQ s) 26∧wc.heap.size≤Dn∧Below wc.heap.size wc wx)
    case first=>
     have hZ:=Held.new wc (aQ Sk.zero) 26
     go_wp2_with (first | ((with_reducible refine dh 26 4 ?_);refine dO (hB2.get 1 rfl) Tryz.underlying26 ak ?_) | ((with_reducible refine isS 26 10 22 ?_);refine iZ (hZ) (aQ s) ak (bI _) ?_))
     go_meet;exact ⟨_,rfl,hZ.whole (aQ s) rfl,Nat.le_refl _,below_setCells _ (Nat.le_refl _) _ _ _ _ ((Below.refl _ _).alloc (Nat.le_refl _) _)⟩
    case rest=>
     obtain ⟨Dn,rfl,hN,hDn,hbn⟩:=hcut;have tX:=hVd.below hbn;have Ul:=hR2.below hbn;have hB3:=hB2.call (by simp) hbn;have asV:=hVd.lt;clear k0;have hbw:=hB3.bw
     have hne1:Dv≠Dn:=by omega
     have hne2:w.heap.size≠Dn:=by have:=hB.size (by simp);simp only [List.length_cons,List.length_nil] at this;omega
     have tK:w.heap.size≤Dn:=by have:=hB.size (by simp);simp only [List.length_cons,List.length_nil] at this;omega
     have k0:=(hB3.aj rfl).cell (j:=0) rfl;have u1:=tX.cell (j:=1) rfl;have n7:=hN.cell (j:=7) rfl;have n7f:=hN.frozen 7;have n8:=hN.cell (j:=8) rfl;have n8f:=hN.frozen 8
     go_upto_region 5 with (fail)
     go_cut [] (fun wx=>Held wx Dn (aQ (cA s (decide (g.kind=Sk.aK∧0<v.iC)) s.s0 s.s1 s.brk)) 26∧(∀ b,b≠Dn→wx.heap[b]? =wc.heap[b]?)∧Below w.heap.size w wx)
     case first=>
      by_cases hg:g.kind=Sk.aK
      · have hg1:=wt hg
        have hfo:decide (g.kind=Sk.aK∧0<v.iC)=decide (0<v.iC):=by simp [hg]
        have Hg:=hide hfo;clear hg hfo;refine wp_region_held_drew (S:=(fun w':World=>w'.cell? ⟨w.heap.size,0,none⟩=wc.cell? ⟨w.heap.size,0,none⟩∧w'.cell? ⟨Dv,1,none⟩=wc.cell? ⟨Dv,1,none⟩)) (by kernel_rfl) ?iK (fun hHeld=>?_)
        case iK=>exact ⟨rfl,rfl⟩
        refine aA 0 ?_;refine aA 1 ?_;refine aA 2 ?_;refine aA 3 ?_;refine aA 4 ?_;refine aA 5 ?_;refine aA 6 ?_;refine aA 7 ?_;refine aA 8 ?_;refine aB 9 fun K hK=>?_;go_simp
        first | (have _m:=s11;have o2:=trivial) | have s9:=trivial
        refine au hK (⟨(World.cell?_setCell_other _ _ _ _ (by intro h;injection h;omega)).trans hHeld.1,(World.cell?_setCell_other _ _ _ _ (by intro h;injection h;omega)).trans hHeld.2⟩) fun hHeld=>?_;clear hK K;refine aA 10 ?_;refine aB 11 fun K hK=>?_;go_simp
        first | (have _m:=s9;have o1:=trivial) | have s11:=trivial
        refine au hK (⟨(World.cell?_setCell_other _ _ _ _ (by intro h;injection h;omega)).trans hHeld.1,(World.cell?_setCell_other _ _ _ _ (by intro h;injection h;omega)).trans hHeld.2⟩) fun hHeld=>?_;clear hK K;refine wpAnyH_done (by kernel_rfl) ?_ _;go_wp2;go_meet
        first | (have _m:=o1;rw [Hg.out];exact ⟨(hN.drew.set 7 (.bool false)).set 8 (.bool (decide (0<v.iC))),fun b hb=>(Below.heap_setCell _ ⟨Dn,8,none⟩ _ b hb).trans (Below.heap_setCell _ ⟨Dn,7,none⟩ _ b hb),(hbw.drew.setCell (p:=⟨Dn,7,none⟩) tK _).setCell (p:=⟨Dn,8,none⟩) tK _⟩) | (have _m:=o2;rw [Hg.out];exact ⟨(hN.drew.set 8 (.bool (decide (0<v.iC)))).set 7 (.bool false),fun b hb=>(Below.heap_setCell _ ⟨Dn,7,none⟩ _ b hb).trans (Below.heap_setCell _ ⟨Dn,8,none⟩ _ b hb),(hbw.drew.setCell (p:=⟨Dn,8,none⟩) tK _).setCell (p:=⟨Dn,7,none⟩) tK _⟩)
      · have hg1:=wf hg
        have hfo:decide (g.kind=Sk.aK∧0<v.iC)=false:=by simp [hg]
        have Hg:=hide hfo;clear hg hfo;refine wp_region_held_drew (S:=(fun w':World=>w'.cell? ⟨w.heap.size,0,none⟩=wc.cell? ⟨w.heap.size,0,none⟩∧w'.cell? ⟨Dv,1,none⟩=wc.cell? ⟨Dv,1,none⟩)) (by kernel_rfl) ?kN (fun hHeld=>?_)
        case kN=>exact ⟨rfl,rfl⟩
        refine aA 0 ?_;refine aA 1 ?_;refine aA 2 ?_;refine aA 3 ?_;refine iE 4 ?_;refine iE 5 ?_;refine iE 6 ?_;refine aA 7 ?_;refine aA 8 ?_;refine aB 9 fun K hK=>?_;go_simp
        first | (have _m:=s11;have o2:=trivial) | have s9:=trivial
        refine au hK (⟨(World.cell?_setCell_other _ _ _ _ (by intro h;injection h;omega)).trans hHeld.1,(World.cell?_setCell_other _ _ _ _ (by intro h;injection h;omega)).trans hHeld.2⟩) fun hHeld=>?_;clear hK K;refine aA 10 ?_;refine aB 11 fun K hK=>?_;go_simp
        first | (have _m:=s9;have o1:=trivial) | have s11:=trivial
        refine au hK (⟨(World.cell?_setCell_other _ _ _ _ (by intro h;injection h;omega)).trans hHeld.1,(World.cell?_setCell_other _ _ _ _ (by intro h;injection h;omega)).trans hHeld.2⟩) fun hHeld=>?_;clear hK K;refine wpAnyH_done (by kernel_rfl) ?_ _;go_wp2;go_meet
        first | (have _m:=o1;rw [Hg.out];exact ⟨(hN.drew.set 7 (.bool false)).set 8 (.bool (false)),fun b hb=>(Below.heap_setCell _ ⟨Dn,8,none⟩ _ b hb).trans (Below.heap_setCell _ ⟨Dn,7,none⟩ _ b hb),(hbw.drew.setCell (p:=⟨Dn,7,none⟩) tK _).setCell (p:=⟨Dn,8,none⟩) tK _⟩) | (have _m:=o2;rw [Hg.out];exact ⟨(hN.drew.set 8 (.bool (false))).set 7 (.bool false),fun b hb=>(Below.heap_setCell _ ⟨Dn,7,none⟩ _ b hb).trans (Below.heap_setCell _ ⟨Dn,8,none⟩ _ b hb),(hbw.drew.setCell (p:=⟨Dn,8,none⟩) tK _).setCell (p:=⟨Dn,7,none⟩) tK _⟩)
     case rest=>
      obtain ⟨Ui,Xj,yQ⟩:=hcut;obtain ⟨fo,hfo⟩:∃ y,decide (g.kind=Sk.aK∧0<v.iC)=y:=⟨_,rfl⟩;rw [hfo] at Ui;have Hg:=hide hfo;clear hfo k0 u1 n7 n7f n8 n8f
      have D5:D≠Dn:=by have h1:=hbv.size;omega
      have D6:∀ i,i<4→w.heap.size+i≠Dn:=fun i hi=>by have:=hB.size (by simp);simp only [List.length_cons,List.length_nil] at this;have h1:=hbv.size;omega
      have eH:aC w wc [(dN g,23),(aQ s,26),(fC e,41),(aQ Sk.zero,26)]:=⟨fun i e he=>(Xj _ (D6 i (by have:=(List.getElem?_eq_some_iff.1 he).1;simpa using this))).trans (hB3.at_ i e he),yQ⟩;have YI:Held wc Dv (gB v) 88:=(Xj Dv hne1).trans tX;have WZ:Held wc D _ 141:=(Xj D D5).trans Ul
      rcases hm.turn with ht | ht
      · rw [ht]
        have m5:wc.cell? ⟨Dn,1,none⟩=some (Value.int .i64 s.s0):=Ui.cell (j:=1) rfl;have m5f:=Ui.frozen 1;have u5:=YI.cell (j:=0) rfl
        have w5:IntKind.i64.wrap (s.s0+v.points)=s.s0+v.points:=by rw [IntKind.wrap_i64];omega
        have x5:IntKind.i64.wrap (0)=0:=by decide
        go_upto_region 6 with (fail)
        go_cut [] (fun wx=>Held wx Dn (aQ (cA s fo (s.s0+v.points) s.s1 s.brk)) 26∧(∀ b,b≠Dn→wx.heap[b]? =wc.heap[b]?)∧Below w.heap.size w wx)
        case first=>
         refine wp_region_held_drew (S:=(fun w':World=>w'.cell? ⟨Dv,0,none⟩=wc.cell? ⟨Dv,0,none⟩)) (by kernel_rfl) ?oQ (fun hHeld=>?_)
         case oQ=>exact rfl
         refine aA 0 ?_;refine aA 1 ?_;refine aA 2 ?_;refine aA 4 ?_;refine aA 5 ?_;refine aA 7 ?_;refine aB 3 fun K hK=>?_;go_simp;refine au hK (hHeld) fun hHeld=>?_;clear hK K;refine aA 6 ?_;refine aA 8 ?_;refine aB 9 fun K hK=>?_;go_simp;refine au hK ((World.cell?_setCell_other _ _ _ _ (by intro h;injection h;omega)).trans hHeld) fun hHeld=>?_;clear hK K;refine wpAnyH_done (by kernel_rfl) ?_ _;go_wp2;go_meet;exact ⟨(Ui.set 1 (.int .i64 (s.s0+v.points))).drew,fun b hb=>Below.heap_setCell _ ⟨Dn,1,none⟩ _ b hb,(yQ.setCell (p:=⟨Dn,1,none⟩) tK _).drew⟩
        case rest=>
         obtain ⟨Uj,II,OW⟩:=hcut;have lC:aC w wc [(dN g,23),(aQ s,26),(fC e,41),(aQ Sk.zero,26)]:=⟨fun i e he=>(II _ (D6 i (by have:=(List.getElem?_eq_some_iff.1 he).1;simpa using this))).trans (eH.at_ i e he),OW⟩;have Xa:Held wc Dv (gB v) 88:=(II Dv hne1).trans YI;have Zl:Held wc D _ 141:=(II D D5).trans WZ;clear m5 m5f u5 w5 x5;have m6:wc.cell? ⟨Dn,2,none⟩=some (Value.int .i64 s.s1):=Uj.cell (j:=2) rfl;have m6f:=Uj.frozen 2;have u6:=Xa.cell (j:=2) rfl
         have w6:IntKind.i64.wrap (s.s1+v.penalty)=s.s1+v.penalty:=by rw [IntKind.wrap_i64];omega
         have x6:IntKind.i64.wrap (1)=1:=by decide
         go_upto_region 7 with (fail)
         go_cut [] (fun wx=>Held wx Dn (aQ (cA s fo (s.s0+v.points) (s.s1+v.penalty) s.brk)) 26∧(∀ b,b≠Dn→wx.heap[b]? =wc.heap[b]?)∧Below w.heap.size w wx)
         case first=>
          refine wp_region_held_drew (S:=(fun w':World=>w'.cell? ⟨Dv,2,none⟩=wc.cell? ⟨Dv,2,none⟩)) (by kernel_rfl) ?kP (fun hHeld=>?_)
          case kP=>exact rfl
          refine aA 0 ?_;refine aA 1 ?_;refine aA 2 ?_;refine aA 3 ?_;refine aA 5 ?_;refine aA 6 ?_;refine aA 8 ?_;refine aB 4 fun K hK=>?_;go_simp;refine au hK (hHeld) fun hHeld=>?_;clear hK K;refine aA 7 ?_;refine aA 9 ?_;refine aB 10 fun K hK=>?_;go_simp;refine au hK ((World.cell?_setCell_other _ _ _ _ (by intro h;injection h;omega)).trans hHeld) fun hHeld=>?_;clear hK K;refine wpAnyH_done (by kernel_rfl) ?_ _;go_wp2;go_meet;exact ⟨(Uj.set 2 (.int .i64 (s.s1+v.penalty))).drew,fun b hb=>Below.heap_setCell _ ⟨Dn,2,none⟩ _ b hb,(OW.setCell (p:=⟨Dn,2,none⟩) tK _).drew⟩
         case rest=>
          obtain ⟨Uk,IJ,OX⟩:=hcut;have KX:aC w wc [(dN g,23),(aQ s,26),(fC e,41),(aQ Sk.zero,26)]:=⟨fun i e he=>(IJ _ (D6 i (by have:=(List.getElem?_eq_some_iff.1 he).1;simpa using this))).trans (lC.at_ i e he),OX⟩;have Xb:Held wc Dv (gB v) 88:=(IJ Dv hne1).trans Xa;have Zm:Held wc D _ 141:=(IJ D D5).trans Zl;clear m6 m6f u6 w6 x6;have m8:wc.cell? ⟨Dn,3,none⟩=some (Value.int .i64 s.brk):=Uk.cell (j:=3) rfl;have m8f:=Uk.frozen 3;have u8:=Xb.cell (j:=0) rfl
          have u8w:IntKind.i64.wrap (s.brk+v.points)=s.brk+v.points:=by rw [IntKind.wrap_i64];omega
          go_upto_region 8 with (fail)
          go_cut [] (fun wx=>Held wx Dn (aQ (cA s fo (s.s0+v.points) (s.s1+v.penalty) (s.brk+v.points))) 26∧(∀ b,b≠Dn→wx.heap[b]? =wc.heap[b]?)∧Below w.heap.size w wx)
          case first=>
           go_wp2;go_meet;exact ⟨Uk.set 3 (.int .i64 (s.brk+v.points)),fun b hb=>Below.heap_setCell _ ⟨Dn,3,none⟩ _ b hb,OX.setCell (p:=⟨Dn,3,none⟩) tK _⟩
          case rest=>
           obtain ⟨KY,IK,IU⟩:=hcut;have Fv:aC w wc [(dN g,23),(aQ s,26),(fC e,41),(aQ Sk.zero,26)]:=⟨fun i e he=>(IK _ (D6 i (by have:=(List.getElem?_eq_some_iff.1 he).1;simpa using this))).trans (KX.at_ i e he),IU⟩;have Lc:Held wc Dv (gB v) 88:=(IK Dv hne1).trans Xb;have OG:Held wc D _ 141:=(IK D D5).trans Zm;clear m8 m8f u8 u8w Uk Uj Ui Xb Xa YI Zm Zl WZ KX lC eH
           have hX:Sk.jm g s v=(cA s fo (s.s0+v.points) (s.s1+v.penalty) (s.brk+v.points)):=by unfold Sk.jm cA;rw [Hg.out];simp [ht]
           obtain ⟨X,eX⟩:∃ x,(cA s fo (s.s0+v.points) (s.s1+v.penalty) (s.brk+v.points))=x:=⟨_,rfl⟩;rw [eX] at hX KY
           have htX:X.turn=0∨X.turn=1:=by rw [← hX];exact hm.turn
           have hmid:=CV (g:=g) (v:=v) hm;rw [hX] at hmid;have HX:=hide hX;clear hX eX;have u9:=Lc.cell (j:=3) rfl
           cases hy:v.stays
           all_goals
            rw [hy] at u9
           · have Xp:uQ (Sk.pass X):=by simpa [hy] using hmid
             have HY:=hide hy;clear hmid hy
             go_upto_region 10 with (fail)
             go_cut [] (fun wx=>Held wx Dn (aQ (Sk.pass X)) 26∧(∀ b,b≠Dn→b<wc.heap.size→wx.heap[b]? =wc.heap[b]?)∧Below w.heap.size w wx)
             case first=>
              go_wp2_with (first | ((with_reducible refine dh 26 10 ?_);refine dO (KY) Tryz.underlying26 ak ?_) | (go_at_call 131;refine (ni X htX _).mono ?_;rintro e1 w6 ⟨rfl,hb6⟩;have KZ:=KY.below hb6) | ((with_reducible refine isS 26 10 62 ?_);refine iZ (KZ) (aQ (Sk.pass X)) ak (bI _) ?_))
              go_meet;exact ⟨KZ.whole (aQ (Sk.pass X)) rfl,fun b hb hl=>(yZ hb _ _ _).trans (hb6.block b hl),below_setCells _ tK _ _ _ _ (IU.trans (hb6.mono IU.size))⟩
             case rest=>
              obtain ⟨KZ,IL,Xk⟩:=hcut;have jP:aC w wc [(dN g,23),(aQ s,26),(fC e,41),(aQ Sk.zero,26)]:=⟨fun i e he=>(IL _ (D6 i (by have:=(List.getElem?_eq_some_iff.1 he).1;simpa using this)) (Fv.lt (List.getElem?_eq_some_iff.1 he).1)).trans (Fv.at_ i e he),Xk⟩;have Xc:Held wc Dv (gB v) 88:=(IL Dv hne1 Lc.lt).trans Lc;have W9:Held wc D _ 141:=(IL D D5 OG.lt).trans OG;clear Fv Lc OG KY u9;have f5:=W9.cell (j:=5) rfl;have eg:=mF g.kind;have HA:=hide fun W (hb:Below w.heap.size w W)=>mJ S g (Sk.pass X) e v W Xp (he.below hb);obtain ⟨ga,hga⟩:∃ x,gq g.kind=x:=⟨_,rfl⟩;rw [hga] at f5 eg HA;clear hga
              go_wp2_with (first | ((with_reducible refine dh 26 10 ?_);refine dO (KZ) Tryz.underlying26 ak ?_) | ((with_reducible refine dh 23 3 ?_);refine dO (jP.get 0 rfl) Tryz.underlying23 fG ?_) | ((with_reducible refine dh 41 5 ?_);refine dO (jP.get 2 rfl) Tryz.underlying41 bY ?_) | ((with_reducible refine dh 88 8 ?_);refine dO (Xc) Tryz.underlying88 dR ?_) | (go_at_fn ga;refine (HA.out _ jP.bw).mono ?_;rintro e1 w6 ⟨rfl,hb6⟩;have hB:=jP.call (by simp) hb6) | ((with_reducible refine isS 26 6 69 ?_);refine iZ (hB.get 3 rfl) (aQ (Sk.after g (Sk.pass X) e.x v)) ak (bI _) ?_))
              have hZ:=hB.put 3 rfl (aQ (Sk.after g (Sk.pass X) e.x v)) rfl;refine bodyPost_ret (aP (p:=6) (hZ.get 3 rfl) Tryz.underlying26 rfl ak rfl _ rfl) rfl ⟨?_,hZ.bw⟩;have h1:=HV.out;have h2:=HX.out;have h3:=HY.out
              unfold Sk.rE
              rw [h1,h3,h2]
              rfl
           · have Xp:uQ X:=by simpa [hy] using hmid
             have HY:=hide hy;clear hmid hy;have KZ:=KY;have jP:=Fv;have Xc:=Lc;have W9:=OG;clear KY Fv Lc OG;have f5:=W9.cell (j:=5) rfl;have eg:=mF g.kind;have HA:=hide fun W (hb:Below w.heap.size w W)=>mJ S g X e v W Xp (he.below hb);obtain ⟨ga,hga⟩:∃ x,gq g.kind=x:=⟨_,rfl⟩;rw [hga] at f5 eg HA;clear hga
             go_wp2_with (first | ((with_reducible refine dh 26 10 ?_);refine dO (KZ) Tryz.underlying26 ak ?_) | ((with_reducible refine dh 23 3 ?_);refine dO (jP.get 0 rfl) Tryz.underlying23 fG ?_) | ((with_reducible refine dh 41 5 ?_);refine dO (jP.get 2 rfl) Tryz.underlying41 bY ?_) | ((with_reducible refine dh 88 8 ?_);refine dO (Xc) Tryz.underlying88 dR ?_) | (go_at_fn ga;refine (HA.out _ jP.bw).mono ?_;rintro e1 w6 ⟨rfl,hb6⟩;have hB:=jP.call (by simp) hb6) | ((with_reducible refine isS 26 6 69 ?_);refine iZ (hB.get 3 rfl) (aQ (Sk.after g X e.x v)) ak (bI _) ?_))
             have hZ:=hB.put 3 rfl (aQ (Sk.after g X e.x v)) rfl;refine bodyPost_ret (aP (p:=6) (hZ.get 3 rfl) Tryz.underlying26 rfl ak rfl _ rfl) rfl ⟨?_,hZ.bw⟩;have h1:=HV.out;have h2:=HX.out;have h3:=HY.out
             unfold Sk.rE
             rw [h1,h3,h2]
             rfl
      · rw [ht]
        have m5:wc.cell? ⟨Dn,2,none⟩=some (Value.int .i64 s.s1):=Ui.cell (j:=2) rfl;have m5f:=Ui.frozen 2;have u5:=YI.cell (j:=0) rfl
        have w5:IntKind.i64.wrap (s.s1+v.points)=s.s1+v.points:=by rw [IntKind.wrap_i64];omega
        have x5:IntKind.i64.wrap (1)=1:=by decide
        go_upto_region 6 with (fail)
        go_cut [] (fun wx=>Held wx Dn (aQ (cA s fo s.s0 (s.s1+v.points) s.brk)) 26∧(∀ b,b≠Dn→wx.heap[b]? =wc.heap[b]?)∧Below w.heap.size w wx)
        case first=>
         refine wp_region_held_drew (S:=(fun w':World=>w'.cell? ⟨Dv,0,none⟩=wc.cell? ⟨Dv,0,none⟩)) (by kernel_rfl) ?jF (fun hHeld=>?_)
         case jF=>exact rfl
         refine aA 0 ?_;refine aA 1 ?_;refine aA 2 ?_;refine aA 4 ?_;refine aA 5 ?_;refine aA 7 ?_;refine aB 3 fun K hK=>?_;go_simp;refine au hK (hHeld) fun hHeld=>?_;clear hK K;refine aA 6 ?_;refine aA 8 ?_;refine aB 9 fun K hK=>?_;go_simp;refine au hK ((World.cell?_setCell_other _ _ _ _ (by intro h;injection h;omega)).trans hHeld) fun hHeld=>?_;clear hK K;refine wpAnyH_done (by kernel_rfl) ?_ _;go_wp2;go_meet;exact ⟨(Ui.set 2 (.int .i64 (s.s1+v.points))).drew,fun b hb=>Below.heap_setCell _ ⟨Dn,2,none⟩ _ b hb,(yQ.setCell (p:=⟨Dn,2,none⟩) tK _).drew⟩
        case rest=>
         obtain ⟨Uj,II,OW⟩:=hcut;have lC:aC w wc [(dN g,23),(aQ s,26),(fC e,41),(aQ Sk.zero,26)]:=⟨fun i e he=>(II _ (D6 i (by have:=(List.getElem?_eq_some_iff.1 he).1;simpa using this))).trans (eH.at_ i e he),OW⟩;have Xa:Held wc Dv (gB v) 88:=(II Dv hne1).trans YI;have Zl:Held wc D _ 141:=(II D D5).trans WZ;clear m5 m5f u5 w5 x5;have m6:wc.cell? ⟨Dn,1,none⟩=some (Value.int .i64 s.s0):=Uj.cell (j:=1) rfl;have m6f:=Uj.frozen 1;have u6:=Xa.cell (j:=2) rfl
         have w6:IntKind.i64.wrap (s.s0+v.penalty)=s.s0+v.penalty:=by rw [IntKind.wrap_i64];omega
         have x6:IntKind.i64.wrap (0)=0:=by decide
         go_upto_region 7 with (fail)
         go_cut [] (fun wx=>Held wx Dn (aQ (cA s fo (s.s0+v.penalty) (s.s1+v.points) s.brk)) 26∧(∀ b,b≠Dn→wx.heap[b]? =wc.heap[b]?)∧Below w.heap.size w wx)
         case first=>
          refine wp_region_held_drew (S:=(fun w':World=>w'.cell? ⟨Dv,2,none⟩=wc.cell? ⟨Dv,2,none⟩)) (by kernel_rfl) ?kQ (fun hHeld=>?_)
          case kQ=>exact rfl
          refine aA 0 ?_;refine aA 1 ?_;refine aA 2 ?_;refine aA 3 ?_;refine aA 5 ?_;refine aA 6 ?_;refine aA 8 ?_;refine aB 4 fun K hK=>?_;go_simp;refine au hK (hHeld) fun hHeld=>?_;clear hK K;refine aA 7 ?_;refine aA 9 ?_;refine aB 10 fun K hK=>?_;go_simp;refine au hK ((World.cell?_setCell_other _ _ _ _ (by intro h;injection h;omega)).trans hHeld) fun hHeld=>?_;clear hK K;refine wpAnyH_done (by kernel_rfl) ?_ _;go_wp2;go_meet;exact ⟨(Uj.set 1 (.int .i64 (s.s0+v.penalty))).drew,fun b hb=>Below.heap_setCell _ ⟨Dn,1,none⟩ _ b hb,(OW.setCell (p:=⟨Dn,1,none⟩) tK _).drew⟩
         case rest=>
          obtain ⟨Uk,IJ,OX⟩:=hcut;have KX:aC w wc [(dN g,23),(aQ s,26),(fC e,41),(aQ Sk.zero,26)]:=⟨fun i e he=>(IJ _ (D6 i (by have:=(List.getElem?_eq_some_iff.1 he).1;simpa using this))).trans (lC.at_ i e he),OX⟩;have Xb:Held wc Dv (gB v) 88:=(IJ Dv hne1).trans Xa;have Zm:Held wc D _ 141:=(IJ D D5).trans Zl;clear m6 m6f u6 w6 x6;have m8:wc.cell? ⟨Dn,3,none⟩=some (Value.int .i64 s.brk):=Uk.cell (j:=3) rfl;have m8f:=Uk.frozen 3;have u8:=Xb.cell (j:=0) rfl
          have u8w:IntKind.i64.wrap (s.brk+v.points)=s.brk+v.points:=by rw [IntKind.wrap_i64];omega
          go_upto_region 8 with (fail)
          go_cut [] (fun wx=>Held wx Dn (aQ (cA s fo (s.s0+v.penalty) (s.s1+v.points) (s.brk+v.points))) 26∧(∀ b,b≠Dn→wx.heap[b]? =wc.heap[b]?)∧Below w.heap.size w wx)
          case first=>
           go_wp2;go_meet;exact ⟨Uk.set 3 (.int .i64 (s.brk+v.points)),fun b hb=>Below.heap_setCell _ ⟨Dn,3,none⟩ _ b hb,OX.setCell (p:=⟨Dn,3,none⟩) tK _⟩
          case rest=>
           obtain ⟨KY,IK,IU⟩:=hcut;have Fv:aC w wc [(dN g,23),(aQ s,26),(fC e,41),(aQ Sk.zero,26)]:=⟨fun i e he=>(IK _ (D6 i (by have:=(List.getElem?_eq_some_iff.1 he).1;simpa using this))).trans (KX.at_ i e he),IU⟩;have Lc:Held wc Dv (gB v) 88:=(IK Dv hne1).trans Xb;have OG:Held wc D _ 141:=(IK D D5).trans Zm;clear m8 m8f u8 u8w Uk Uj Ui Xb Xa YI Zm Zl WZ KX lC eH
           have hX:Sk.jm g s v=(cA s fo (s.s0+v.penalty) (s.s1+v.points) (s.brk+v.points)):=by unfold Sk.jm cA;rw [Hg.out];simp [ht]
           obtain ⟨X,eX⟩:∃ x,(cA s fo (s.s0+v.penalty) (s.s1+v.points) (s.brk+v.points))=x:=⟨_,rfl⟩;rw [eX] at hX KY
           have htX:X.turn=0∨X.turn=1:=by rw [← hX];exact hm.turn
           have hmid:=CV (g:=g) (v:=v) hm;rw [hX] at hmid;have HX:=hide hX;clear hX eX;have u9:=Lc.cell (j:=3) rfl
           cases hy:v.stays
           all_goals
            rw [hy] at u9
           · have Xp:uQ (Sk.pass X):=by simpa [hy] using hmid
             have HY:=hide hy;clear hmid hy
             go_upto_region 10 with (fail)
             go_cut [] (fun wx=>Held wx Dn (aQ (Sk.pass X)) 26∧(∀ b,b≠Dn→b<wc.heap.size→wx.heap[b]? =wc.heap[b]?)∧Below w.heap.size w wx)
             case first=>
              go_wp2_with (first | ((with_reducible refine dh 26 10 ?_);refine dO (KY) Tryz.underlying26 ak ?_) | (go_at_call 131;refine (ni X htX _).mono ?_;rintro e1 w6 ⟨rfl,hb6⟩;have KZ:=KY.below hb6) | ((with_reducible refine isS 26 10 62 ?_);refine iZ (KZ) (aQ (Sk.pass X)) ak (bI _) ?_))
              go_meet;exact ⟨KZ.whole (aQ (Sk.pass X)) rfl,fun b hb hl=>(yZ hb _ _ _).trans (hb6.block b hl),below_setCells _ tK _ _ _ _ (IU.trans (hb6.mono IU.size))⟩
             case rest=>
              obtain ⟨KZ,IL,Xk⟩:=hcut;have jP:aC w wc [(dN g,23),(aQ s,26),(fC e,41),(aQ Sk.zero,26)]:=⟨fun i e he=>(IL _ (D6 i (by have:=(List.getElem?_eq_some_iff.1 he).1;simpa using this)) (Fv.lt (List.getElem?_eq_some_iff.1 he).1)).trans (Fv.at_ i e he),Xk⟩;have Xc:Held wc Dv (gB v) 88:=(IL Dv hne1 Lc.lt).trans Lc;have W9:Held wc D _ 141:=(IL D D5 OG.lt).trans OG;clear Fv Lc OG KY u9;have f5:=W9.cell (j:=5) rfl;have eg:=mF g.kind;have HA:=hide fun W (hb:Below w.heap.size w W)=>mJ S g (Sk.pass X) e v W Xp (he.below hb);obtain ⟨ga,hga⟩:∃ x,gq g.kind=x:=⟨_,rfl⟩;rw [hga] at f5 eg HA;clear hga
              go_wp2_with (first | ((with_reducible refine dh 26 10 ?_);refine dO (KZ) Tryz.underlying26 ak ?_) | ((with_reducible refine dh 23 3 ?_);refine dO (jP.get 0 rfl) Tryz.underlying23 fG ?_) | ((with_reducible refine dh 41 5 ?_);refine dO (jP.get 2 rfl) Tryz.underlying41 bY ?_) | ((with_reducible refine dh 88 8 ?_);refine dO (Xc) Tryz.underlying88 dR ?_) | (go_at_fn ga;refine (HA.out _ jP.bw).mono ?_;rintro e1 w6 ⟨rfl,hb6⟩;have hB:=jP.call (by simp) hb6) | ((with_reducible refine isS 26 6 69 ?_);refine iZ (hB.get 3 rfl) (aQ (Sk.after g (Sk.pass X) e.x v)) ak (bI _) ?_))
              have hZ:=hB.put 3 rfl (aQ (Sk.after g (Sk.pass X) e.x v)) rfl;refine bodyPost_ret (aP (p:=6) (hZ.get 3 rfl) Tryz.underlying26 rfl ak rfl _ rfl) rfl ⟨?_,hZ.bw⟩;have h1:=HV.out;have h2:=HX.out;have h3:=HY.out
              unfold Sk.rE
              rw [h1,h3,h2]
              rfl
           · have Xp:uQ X:=by simpa [hy] using hmid
             have HY:=hide hy;clear hmid hy;have KZ:=KY;have jP:=Fv;have Xc:=Lc;have W9:=OG;clear KY Fv Lc OG;have f5:=W9.cell (j:=5) rfl;have eg:=mF g.kind;have HA:=hide fun W (hb:Below w.heap.size w W)=>mJ S g X e v W Xp (he.below hb);obtain ⟨ga,hga⟩:∃ x,gq g.kind=x:=⟨_,rfl⟩;rw [hga] at f5 eg HA;clear hga
             go_wp2_with (first | ((with_reducible refine dh 26 10 ?_);refine dO (KZ) Tryz.underlying26 ak ?_) | ((with_reducible refine dh 23 3 ?_);refine dO (jP.get 0 rfl) Tryz.underlying23 fG ?_) | ((with_reducible refine dh 41 5 ?_);refine dO (jP.get 2 rfl) Tryz.underlying41 bY ?_) | ((with_reducible refine dh 88 8 ?_);refine dO (Xc) Tryz.underlying88 dR ?_) | (go_at_fn ga;refine (HA.out _ jP.bw).mono ?_;rintro e1 w6 ⟨rfl,hb6⟩;have hB:=jP.call (by simp) hb6) | ((with_reducible refine isS 26 6 69 ?_);refine iZ (hB.get 3 rfl) (aQ (Sk.after g X e.x v)) ak (bI _) ?_))
             have hZ:=hB.put 3 rfl (aQ (Sk.after g X e.x v)) rfl;refine bodyPost_ret (aP (p:=6) (hZ.get 3 rfl) Tryz.underlying26 rfl ak rfl _ rfl) rfl ⟨?_,hZ.bw⟩;have h1:=HV.out;have h2:=HX.out;have h3:=HY.out
             unfold Sk.rE
             rw [h1,h3,h2]
             rfl
def nS (s:Sk.State) (fr fo:Bool) (wi:Int):Sk.State:=⟨s.turn,s.s0,s.s1,s.brk,s.phase,s.aW,s.colour,fr,fo,s.aJ,s.t0,s.t1,wi⟩
theorem l7 (g:Sk.Game) (s:Sk.State) (e:Sk.Entry):Sk.next g s e=if e.kind=Sk.dW then Sk.rE g s e else if e.kind=Sk.kK then Sk.pass (nS s false false s.ay) else if e.kind=Sk.mQ then nS s true false s.ay else if e.kind=Sk.jg then nS s false false (1 - s.turn) else nS s false false s.ay:=rfl
theorem JA (S:Nat→Prop) (g:Sk.Game) (s:Sk.State) (e:En) (w:World) (ht:s.turn=0∨s.turn=1) (hsh:e.x.kind=Sk.dW→∀ W,Below w.heap.size w W→Calls Tryz.prog 130 #[rF g,lJ s,wC e] W fun e_ w'=>e_= .returned (lJ (Sk.rE g s e.x))∧Below W.heap.size W w'):Calls Tryz.prog 65 #[rF g,lJ s,wC e] w fun e_ w'=>e_= .returned (lJ (Sk.next g s e.x))∧Below w.heap.size w w':=by
 go_enter Tryz.func65,Tryz.ntmps65
 go_upto_region 0 with (fail)
 go_cut [3,4,5,6] (fun v3 v4 v5 v6 wx=>v3=ptr w.heap.size∧v4=ptr (w.heap.size+1)∧v5=ptr (w.heap.size+2)∧v6=ptr (w.heap.size+3)∧aC w wx [(dN g,23),(aQ s,26),(fC e,41),(aQ Sk.zero,26)])
 case first=>
  go_wp2;go_meet;exact ⟨rfl,rfl,rfl,rfl,(((((aC.nil w).new (by simp) (dN g) _).new (by simp) (aQ s) _).new (by simp) (fC e) _).new (by simp) (aQ Sk.zero) _)⟩
 case rest=>
  obtain ⟨rfl,rfl,rfl,rfl,hB⟩:=hcut;have x0:=(hB.get 2 rfl).cell (j:=0) rfl;have k0:=(hB.get 1 rfl).cell (j:=0) rfl;have XL:=(hB.get 1 rfl).frozen 0;have k7:=(hB.get 1 rfl).cell (j:=7) rfl;have Px:=(hB.get 1 rfl).frozen 7;have k8:=(hB.get 1 rfl).cell (j:=8) rfl;have kf8:=(hB.get 1 rfl).frozen 8;have k12:=(hB.get 1 rfl).cell (j:=12) rfl;have aaj:=(hB.get 1 rfl).frozen 12
  by_cases h1:e.x.kind=Sk.dW
  · have h11:=wt h1
    have HSH:=hide (hsh h1);have HM:=hide (show Sk.next g s e.x=(Sk.rE g s e.x) by rw [l7];rw [if_pos h1]);clear h1 hsh
    go_wp2_with (first | ((with_reducible refine dh 23 3 ?_);refine dO (hB.aj rfl) Tryz.underlying23 fG ?_) | ((with_reducible refine dh 26 4 ?_);refine dO (hB.get 1 rfl) Tryz.underlying26 ak ?_) | ((with_reducible refine dh 41 5 ?_);refine dO (hB.get 2 rfl) Tryz.underlying41 bY ?_) | (go_at_call 130;refine (HSH.out _ hB.bw).mono ?_;rintro e1 w1 ⟨rfl,hb1⟩;have hB:=hB.call (by simp) hb1) | ((with_reducible refine isS 26 6 13 ?_);refine iZ (hB.get 3 rfl) (aQ (Sk.rE g s e.x)) ak (bI _) ?_))
    have hZ:=hB.put 3 rfl (aQ (Sk.rE g s e.x)) rfl;refine bodyPost_ret (aP (p:=6) (hZ.get 3 rfl) Tryz.underlying26 rfl ak rfl _ rfl) rfl ⟨?_,hZ.bw⟩;rw [HM.out];rfl
  · have h11:=wf h1
    clear hsh
    by_cases h2:e.x.kind=Sk.kK
    · have h21:=wt h2
      have HM:=hide (show Sk.next g s e.x=(Sk.pass (nS s false false s.ay)) by rw [l7];rw [if_neg h1,if_pos h2]);have hE1:aC w (wc.setCell ⟨w.heap.size+1,8,none⟩ (.bool false)) [(dN g,23),(aQ (nS s s.free false s.ay),26),(fC e,41),(aQ Sk.zero,26)]:=hB.set 1 rfl 8 _;have hE2:aC w ((wc.setCell ⟨w.heap.size+1,8,none⟩ (.bool false)).setCell ⟨w.heap.size+1,7,none⟩ (.bool false)) [(dN g,23),(aQ (nS s false false s.ay),26),(fC e,41),(aQ Sk.zero,26)]:=hE1.set 1 rfl 7 _;clear h1 h2
      go_wp2_with (first | ((with_reducible refine dh 26 4 ?_);refine dO (hE2.get 1 rfl) Tryz.underlying26 ak ?_) | (go_at_call 131;refine (ni (nS s false false s.ay) ht _).mono ?_;rintro e1 w6 ⟨rfl,hb6⟩;have hE:=hE2.call (by simp) hb6) | ((with_reducible refine isS 26 6 21 ?_);refine iZ (hE.get 3 rfl) (aQ (Sk.pass (nS s false false s.ay))) ak (bI _) ?_))
      have hZ:=hE.put 3 rfl (aQ (Sk.pass (nS s false false s.ay))) rfl;refine bodyPost_ret (aP (p:=6) (hZ.get 3 rfl) Tryz.underlying26 rfl ak rfl _ rfl) rfl ⟨?_,hZ.bw⟩;rw [HM.out];rfl
    · have h21:=wf h2
      by_cases h3:e.x.kind=Sk.mQ
      · have h31:=wt h3
        have HM:=hide (show Sk.next g s e.x=(nS s true false s.ay) by rw [l7];rw [if_neg h1,if_neg h2,if_pos h3]);have hE1:aC w (wc.setCell ⟨w.heap.size+1,8,none⟩ (.bool false)) [(dN g,23),(aQ (nS s s.free false s.ay),26),(fC e,41),(aQ Sk.zero,26)]:=hB.set 1 rfl 8 _;have hE2:aC w ((wc.setCell ⟨w.heap.size+1,8,none⟩ (.bool false)).setCell ⟨w.heap.size+1,7,none⟩ (.bool false)) [(dN g,23),(aQ (nS s false false s.ay),26),(fC e,41),(aQ Sk.zero,26)]:=hE1.set 1 rfl 7 _;have hE:aC w (((wc.setCell ⟨w.heap.size+1,8,none⟩ (.bool false)).setCell ⟨w.heap.size+1,7,none⟩ (.bool false)).setCell ⟨w.heap.size+1,7,none⟩ (.bool true)) [(dN g,23),(aQ (nS s true false s.ay),26),(fC e,41),(aQ Sk.zero,26)]:=hE2.set 1 rfl 7 _;clear h1 h2 h3
        go_wp2_with (first | ((with_reducible refine dh 26 4 ?_);refine dO (hE.get 1 rfl) Tryz.underlying26 ak ?_) | ((with_reducible refine isS 26 6 25 ?_);refine iZ (hE.get 3 rfl) (aQ (nS s true false s.ay)) ak (bI _) ?_))
        have hZ:=hE.put 3 rfl (aQ (nS s true false s.ay)) rfl;refine bodyPost_ret (aP (p:=6) (hZ.get 3 rfl) Tryz.underlying26 rfl ak rfl _ rfl) rfl ⟨?_,hZ.bw⟩;rw [HM.out];rfl
      · have h31:=wf h3
        by_cases h4:e.x.kind=Sk.jg
        · have h41:=wt h4
          rcases ht with ht | ht
          · have ht':=ht
            rw [ht] at k0;clear ht;have HM:=hide (show Sk.next g s e.x=(nS s false false 1) by rw [l7];rw [if_neg h1,if_neg h2,if_neg h3,if_pos h4,ht'];rfl);have hE1:aC w (wc.setCell ⟨w.heap.size+1,8,none⟩ (.bool false)) [(dN g,23),(aQ (nS s s.free false s.ay),26),(fC e,41),(aQ Sk.zero,26)]:=hB.set 1 rfl 8 _;have hE2:aC w ((wc.setCell ⟨w.heap.size+1,8,none⟩ (.bool false)).setCell ⟨w.heap.size+1,7,none⟩ (.bool false)) [(dN g,23),(aQ (nS s false false s.ay),26),(fC e,41),(aQ Sk.zero,26)]:=hE1.set 1 rfl 7 _;have hE:aC w (((wc.setCell ⟨w.heap.size+1,8,none⟩ (.bool false)).setCell ⟨w.heap.size+1,7,none⟩ (.bool false)).setCell ⟨w.heap.size+1,12,none⟩ (.int .i64 1)) [(dN g,23),(aQ (nS s false false 1),26),(fC e,41),(aQ Sk.zero,26)]:=hE2.set 1 rfl 12 _;clear h1 h2 h3 h4
            go_wp2_with (first | ((with_reducible refine dh 26 4 ?_);refine dO (hE.get 1 rfl) Tryz.underlying26 ak ?_) | ((with_reducible refine isS 26 6 32 ?_);refine iZ (hE.get 3 rfl) (aQ (nS s false false 1)) ak (bI _) ?_))
            have hZ:=hE.put 3 rfl (aQ (nS s false false 1)) rfl;refine bodyPost_ret (aP (p:=6) (hZ.get 3 rfl) Tryz.underlying26 rfl ak rfl _ rfl) rfl ⟨?_,hZ.bw⟩;rw [HM.out];rfl
          · have ht':=ht
            rw [ht] at k0;clear ht;have HM:=hide (show Sk.next g s e.x=(nS s false false 0) by rw [l7];rw [if_neg h1,if_neg h2,if_neg h3,if_pos h4,ht'];rfl);have hE1:aC w (wc.setCell ⟨w.heap.size+1,8,none⟩ (.bool false)) [(dN g,23),(aQ (nS s s.free false s.ay),26),(fC e,41),(aQ Sk.zero,26)]:=hB.set 1 rfl 8 _;have hE2:aC w ((wc.setCell ⟨w.heap.size+1,8,none⟩ (.bool false)).setCell ⟨w.heap.size+1,7,none⟩ (.bool false)) [(dN g,23),(aQ (nS s false false s.ay),26),(fC e,41),(aQ Sk.zero,26)]:=hE1.set 1 rfl 7 _;have hE:aC w (((wc.setCell ⟨w.heap.size+1,8,none⟩ (.bool false)).setCell ⟨w.heap.size+1,7,none⟩ (.bool false)).setCell ⟨w.heap.size+1,12,none⟩ (.int .i64 0)) [(dN g,23),(aQ (nS s false false 0),26),(fC e,41),(aQ Sk.zero,26)]:=hE2.set 1 rfl 12 _;clear h1 h2 h3 h4
            go_wp2_with (first | ((with_reducible refine dh 26 4 ?_);refine dO (hE.get 1 rfl) Tryz.underlying26 ak ?_) | ((with_reducible refine isS 26 6 32 ?_);refine iZ (hE.get 3 rfl) (aQ (nS s false false 0)) ak (bI _) ?_))
            have hZ:=hE.put 3 rfl (aQ (nS s false false 0)) rfl;refine bodyPost_ret (aP (p:=6) (hZ.get 3 rfl) Tryz.underlying26 rfl ak rfl _ rfl) rfl ⟨?_,hZ.bw⟩;rw [HM.out];rfl
        · have h41:=wf h4
          have HM:=hide (show Sk.next g s e.x=(nS s false false s.ay) by rw [l7];rw [if_neg h1,if_neg h2,if_neg h3,if_neg h4]);have hE1:aC w (wc.setCell ⟨w.heap.size+1,8,none⟩ (.bool false)) [(dN g,23),(aQ (nS s s.free false s.ay),26),(fC e,41),(aQ Sk.zero,26)]:=hB.set 1 rfl 8 _;have hE2:aC w ((wc.setCell ⟨w.heap.size+1,8,none⟩ (.bool false)).setCell ⟨w.heap.size+1,7,none⟩ (.bool false)) [(dN g,23),(aQ (nS s false false s.ay),26),(fC e,41),(aQ Sk.zero,26)]:=hE1.set 1 rfl 7 _;clear h1 h2 h3 h4
          go_wp2_with (first | ((with_reducible refine dh 26 4 ?_);refine dO (hE2.get 1 rfl) Tryz.underlying26 ak ?_) | ((with_reducible refine isS 26 6 33 ?_);refine iZ (hE2.get 3 rfl) (aQ (nS s false false s.ay)) ak (bI _) ?_))
          have hZ:=hE2.put 3 rfl (aQ (nS s false false s.ay)) rfl;refine bodyPost_ret (aP (p:=6) (hZ.get 3 rfl) Tryz.underlying26 rfl ak rfl _ rfl) rfl ⟨?_,hZ.bw⟩;rw [HM.out];rfl
theorem agf (s:Sk.State) (Ds:Nat) (w:World) (hS:Held w Ds (aQ s) 26):nX 124 #[ptr Ds] (decide (s.ay<0)) w:=by
 refine ⟨enters_of Tryz.func124 (by kernel_rfl) rfl,fun W hb=>?_⟩;have h1:=hS.below hb;have k12:=h1.cell (j:=12) rfl;have aaj:=h1.frozen 12
 go_enter Tryz.func124,Tryz.ntmps124
 go_wp2;go_ret;exact ⟨rfl,hb⟩
def oP (s:Sk.State) (e:Sk.Entry):Bool:=s.aO || decide (e.kind≠Sk.kK∧e.kind≠Sk.mQ)
theorem agn (s:Sk.State) (e:En) (Ds De:Nat) (w:World) (hS:Held w Ds (aQ s) 26) (hE:Held w De (fC e) 41):nX 125 #[ptr Ds,ptr De] (oP s e.x) w:=by
 refine ⟨enters_of Tryz.func125 (by kernel_rfl) rfl,fun W hb=>?_⟩;have h1:=hS.below hb;have k8:=h1.cell (j:=8) rfl;have kf8:=h1.frozen 8;have h2:=hE.below hb;have x0:=h2.cell (j:=0) rfl;have xf0:=h2.frozen 0
 by_cases h1:s.aO=true
 · try rw [h1] at k8
   have HH:=hide (And.intro h1 trivial);clear h1
   go_enter Tryz.func125,Tryz.ntmps125
   go_wp2;go_ret;exact ⟨aI (by obtain ⟨h1,_⟩:=HH.out;first | (simp [oP,h1];done) | (simp [oP,h1];omega) | (rw [Bool.eq_iff_iff];simp [oP,h1];omega)),hb⟩
 · have h1:s.aO=false:=by simpa using h1
   try rw [h1] at k8
   by_cases h2:e.x.kind=Sk.kK
   · have Ub:=wt h2
     have HH:=hide (And.intro h1 (And.intro h2 trivial));clear h1 h2
     go_enter Tryz.func125,Tryz.ntmps125
     go_wp2;go_ret;exact ⟨aI (by obtain ⟨h1,h2,_⟩:=HH.out;first | (simp [oP,h1,h2];done) | (simp [oP,h1,h2];omega) | (rw [Bool.eq_iff_iff];simp [oP,h1,h2];omega)),hb⟩
   · have Ua:=wf h2
     by_cases h3:e.x.kind=Sk.mQ
     · have OA:=wt h3
       have HH:=hide (And.intro h1 (And.intro h2 (And.intro h3 trivial)));clear h1 h2 h3
       go_enter Tryz.func125,Tryz.ntmps125
       go_wp2;go_ret;exact ⟨aI (by obtain ⟨h1,h2,h3,_⟩:=HH.out;first | (simp [oP,h1,h2,h3];done) | (simp [oP,h1,h2,h3];omega) | (rw [Bool.eq_iff_iff];simp [oP,h1,h2,h3];omega)),hb⟩
     · have Oz:=wf h3
       have HH:=hide (And.intro h1 (And.intro h2 (And.intro h3 trivial)));clear h1 h2 h3
       go_enter Tryz.func125,Tryz.ntmps125
       go_wp2;go_ret;exact ⟨aI (by obtain ⟨h1,h2,h3,_⟩:=HH.out;first | (simp [oP,h1,h2,h3];done) | (simp [oP,h1,h2,h3];omega) | (rw [Bool.eq_iff_iff];simp [oP,h1,h2,h3];omega)),hb⟩
theorem agv (g:Sk.Game) (s:Sk.State) (e:En) (Dk Dg Ds De:Nat) (w:World) (hK:Held w Dk [.bool (decide (e.x.kind=Sk.dW))] 4) (hG:Held w Dg (dN g) 23) (hS:Held w Ds (aQ s) 26) (hE:Held w De (fC e) 41):nX 126 #[ptr Dk,ptr Dg,ptr Ds,ptr De] (Sk.eF g s e.x) w:=by
 refine ⟨enters_of Tryz.func126 (by kernel_rfl) rfl,fun W hb=>?_⟩;have h1:=hS.below hb;have k4:=h1.cell (j:=4) rfl;have S9:=h1.frozen 4;have h2:=hE.below hb;have x1:=h2.cell (j:=1) rfl;have xf1:=h2.frozen 1;have h3:=hG.below hb;have g0:=h3.cell (j:=0) rfl;have Za:=h3.frozen 0;have h4:=hK.below hb;have q0:=h4.cell (j:=0) rfl;have qf0:=h4.frozen 0;have hca:=fun W=>Dz s e.x.called W;obtain ⟨yc,wU⟩:∃ y,Sk.callable s e.x.called=y:=⟨_,rfl⟩
 simp only [wU] at hca
 have YD:=hide hca;have YE:=hide wU;clear hca wU;obtain ⟨ys,hys⟩:∃ y,decide (e.x.kind=Sk.dW)=y:=⟨_,rfl⟩;rw [hys] at q0
 cases ys
 · have hk:¬ e.x.kind=Sk.dW:=of_decide_eq_false hys
   clear hys;have HH:=hide (And.intro hk trivial);clear hk
   go_enter Tryz.func126,Tryz.ntmps126
   go_wp2_with (first | ((with_reducible refine dh 26 2 ?_);refine dO (h1) Tryz.underlying26 ak ?_) | ((with_reducible refine iV 26 2 ?_);refine nO (h1) Tryz.underlying26 ak ?_) | (go_at_call 127;refine (YD.out _).mono ?_;rintro e1 w1 ⟨rfl,hb1⟩;have hb:=hb.trans (hb1.mono hb.size)))
   go_ret;exact ⟨aI (by have hcl:=YE.out;obtain ⟨hk,_⟩:=HH.out;first | (simp [Sk.eF,hcl,hk];done) | (simp [Sk.eF,hcl,hk];omega) | (rw [Bool.eq_iff_iff];simp [Sk.eF,hcl,hk];omega)),hb⟩
 · have hk:e.x.kind=Sk.dW:=of_decide_eq_true hys
   clear hys
   by_cases h4:g.kind=Sk.aK
   · have OC:=wt h4
     by_cases h5:s.phase=Sk.bV
     · have Ud:=wt h5
       by_cases h6:e.x.called=Sk.bQ
       · have Uf:=wt h6
         have HH:=hide (And.intro hk (And.intro h4 (And.intro h5 (And.intro h6 trivial))));clear hk h4 h5 h6
         go_enter Tryz.func126,Tryz.ntmps126
         go_wp2_with (first | ((with_reducible refine dh 26 2 ?_);refine dO (h1) Tryz.underlying26 ak ?_) | ((with_reducible refine iV 26 2 ?_);refine nO (h1) Tryz.underlying26 ak ?_) | (go_at_call 127;refine (YD.out _).mono ?_;rintro e1 w1 ⟨rfl,hb1⟩;have hb:=hb.trans (hb1.mono hb.size)))
         go_ret;exact ⟨aI (by have hcl:=YE.out;obtain ⟨hk,h4,h5,h6,_⟩:=HH.out;first | (simp [Sk.eF,hcl,hk,h4,h5,h6];done) | (simp [Sk.eF,hcl,hk,h4,h5,h6];omega) | (rw [Bool.eq_iff_iff];simp [Sk.eF,hcl,hk,h4,h5,h6];omega)),hb⟩
       · have Ue:=wf h6
         have HH:=hide (And.intro hk (And.intro h4 (And.intro h5 (And.intro h6 trivial))));clear hk h4 h5 h6
         go_enter Tryz.func126,Tryz.ntmps126
         go_wp2_with (first | ((with_reducible refine dh 26 2 ?_);refine dO (h1) Tryz.underlying26 ak ?_) | ((with_reducible refine iV 26 2 ?_);refine nO (h1) Tryz.underlying26 ak ?_) | (go_at_call 127;refine (YD.out _).mono ?_;rintro e1 w1 ⟨rfl,hb1⟩;have hb:=hb.trans (hb1.mono hb.size)))
         go_ret;exact ⟨aI (by have hcl:=YE.out;obtain ⟨hk,h4,h5,h6,_⟩:=HH.out;first | (simp [Sk.eF,hcl,hk,h4,h5,h6];done) | (simp [Sk.eF,hcl,hk,h4,h5,h6];omega) | (rw [Bool.eq_iff_iff];simp [Sk.eF,hcl,hk,h4,h5,h6];omega)),hb⟩
     · have Uc:=wf h5
       by_cases h7:e.x.called=Sk.bQ
       · have Uh:=wt h7
         have HH:=hide (And.intro hk (And.intro h4 (And.intro h5 (And.intro h7 trivial))));clear hk h4 h5 h7
         go_enter Tryz.func126,Tryz.ntmps126
         go_wp2_with (first | ((with_reducible refine dh 26 2 ?_);refine dO (h1) Tryz.underlying26 ak ?_) | ((with_reducible refine iV 26 2 ?_);refine nO (h1) Tryz.underlying26 ak ?_) | (go_at_call 127;refine (YD.out _).mono ?_;rintro e1 w1 ⟨rfl,hb1⟩;have hb:=hb.trans (hb1.mono hb.size)))
         go_ret;exact ⟨aI (by have hcl:=YE.out;obtain ⟨hk,h4,h5,h7,_⟩:=HH.out;first | (simp [Sk.eF,hcl,hk,h4,h5,h7];done) | (simp [Sk.eF,hcl,hk,h4,h5,h7];omega) | (rw [Bool.eq_iff_iff];simp [Sk.eF,hcl,hk,h4,h5,h7];omega)),hb⟩
       · have Ug:=wf h7
         cases yc
         all_goals
          have HH:=hide (And.intro hk (And.intro h4 (And.intro h5 (And.intro h7 trivial))));clear hk h4 h5 h7
          go_enter Tryz.func126,Tryz.ntmps126
          go_wp2_with (first | ((with_reducible refine dh 26 2 ?_);refine dO (h1) Tryz.underlying26 ak ?_) | ((with_reducible refine iV 26 2 ?_);refine nO (h1) Tryz.underlying26 ak ?_) | (go_at_call 127;refine (YD.out _).mono ?_;rintro e1 w1 ⟨rfl,hb1⟩;have hb:=hb.trans (hb1.mono hb.size)))
          go_ret;exact ⟨aI (by have hcl:=YE.out;obtain ⟨hk,h4,h5,h7,_⟩:=HH.out;first | (simp [Sk.eF,hcl,hk,h4,h5,h7];done) | (simp [Sk.eF,hcl,hk,h4,h5,h7];omega) | (rw [Bool.eq_iff_iff];simp [Sk.eF,hcl,hk,h4,h5,h7];omega)),hb⟩
   · have OB:=wf h4
     have HH:=hide (And.intro hk (And.intro h4 trivial));clear hk h4
     go_enter Tryz.func126,Tryz.ntmps126
     go_wp2_with (first | ((with_reducible refine dh 26 2 ?_);refine dO (h1) Tryz.underlying26 ak ?_) | ((with_reducible refine iV 26 2 ?_);refine nO (h1) Tryz.underlying26 ak ?_) | (go_at_call 127;refine (YD.out _).mono ?_;rintro e1 w1 ⟨rfl,hb1⟩;have hb:=hb.trans (hb1.mono hb.size)))
     go_ret;exact ⟨aI (by have hcl:=YE.out;obtain ⟨hk,h4,_⟩:=HH.out;first | (simp [Sk.eF,hcl,hk,h4];done) | (simp [Sk.eF,hcl,hk,h4];omega) | (rw [Bool.eq_iff_iff];simp [Sk.eF,hcl,hk,h4];omega)),hb⟩
namespace Sk
theorem Gs (s:State) (e:Entry):∀ (l:List ByteArray) (m:Int),rD s e m l≤m+3*l.length
 | [],m=>by rw [rD];simp
 | b::l,m=>by
   rw [rD];refine Int.le_trans (Gs s e l _) ?_;rw [List.length_cons]
   split <;> omega
theorem Oa (l:List ByteArray) (b:ByteArray):count l b≤l.length:=by
 unfold count
 have:=List.length_filter_le (fun x=>decide (x=b)) l
 omega
theorem Pj {g:Game} {s:State} {e:Entry} (hc:s.colour≤7) (hp:e.aV.length≤22):(judge g s e).points≤1000000∧(judge g s e).penalty≤1000000:=by
 have hn:(e.aV.length:Int)≤22:=by omega
 have hw:=G8 (s:=s) (e:=e) hc
 unfold judge
 split
 · unfold dQ
   split
   · have h2:=Ed s e e.aV (if dw s e=2 then max (max 4 (worth s e)) (value (e.hits.headD bQ)) else max 4 (worth s e)) (by
      have:=(nG (e.hits.headD bQ)).2
      split <;> omega)
     exact ⟨by show (0:Int)≤1000000;decide,by show most _ _ _ _≤1000000;omega⟩
   · have:=Oa e.aV aX
     refine ⟨?_,by show (0:Int)≤1000000;decide⟩
     show aF s e≤1000000
     unfold aF
     repeat' split
     all_goals omega
 · split
   · unfold dZ
     split
     · exact ⟨by show (0:Int)≤1000000;decide,by show (2:Int)≤1000000;decide⟩
     · split
       · exact ⟨by show (0:Int)≤1000000;decide,by show (2:Int)≤1000000;decide⟩
       · have:=Gs s e e.aV (if jf s e then 2 else 0)
         refine ⟨?_,by show (0:Int)≤1000000;decide⟩
         show fP s e≤1000000
         unfold fP
         revert this
         split <;> intro <;> omega
   · unfold iG
     split
     · exact ⟨by show (1:Int)≤1000000;decide,by show (0:Int)≤1000000;decide⟩
     · exact ⟨by show (0:Int)≤1000000;decide,by show (0:Int)≤1000000;decide⟩
theorem Og {g:Game} {e:Entry} (h:jc g e=0) (hk:e.kind=dW):e.aV.length≤22:=by
 unfold jc at h
 split at h
 · simp at h
 · rw [if_neg (by simp [hk])] at h
   split at h
   · simp at h
   · rename_i hx;omega
theorem zZ {g:Game} (h:eU g=0):jv g.kind=true:=by
 rcases gW h with ⟨h,_⟩ | ⟨h,_⟩ | ⟨h,_⟩ <;> simp [jv,h]
end Sk
theorem vZ (S:Nat→Prop) (g:Sk.Game) (s:Sk.State) (e:En) (w:World) (ho:Sk.Ok g s) (hk:Sk.jc g e.x=0) (hc:Sk.eF g s e.x=true) (he:je w S e):
 Calls Tryz.prog 65 #[rF g,lJ s,wC e] w fun e_ w'=>e_= .returned (lJ (Sk.next g s e.x))∧Below w.heap.size w w':=by
 refine JA S g s e w ho.inr.turn fun hs W hb=>?_;have hv:=Sk.vI g s e.x ho.inr.colour (fun hg hp=>by have:=Sk.qF hk hs hc hg hp;omega);have hu:=Sk.Pj (g:=g) (s:=s) (e:=e.x) ho.inr.colour.2 (Sk.Og hk hs);exact GR S g s e W (Sk.zZ ho.game) (LD ho) (he.below hb) ho.inr.s0 ho.inr.s1 ho.inr.brk ⟨hv.points,hu.1⟩ ⟨hv.penalty,hu.2⟩
theorem Ox {W:World} {n N:Nat} {k:ByteArray} {gb:Nat} (hb:W.heap[n]? =some (.map (gE N 3) 3)) (hk:Sk.jv k=true) (hg:gU k=gb):
 (Instr.lookup 142 (.map (some n)) (.string k) false).run Tryz.prog W= .ok (Nv (N+1+gI k) (nH (gI k)).length (jk k) (gV k) gb (gK k) (gq k)) W:=by subst hg;exact fB hb hk false
theorem Oy {W:World} {n N:Nat} {k:ByteArray} {gb:Nat} (hb:W.heap[n]? =some (.map (gE N 3) 3)) (hk:Sk.jv k=true) (hg:gK k=gb):
 (Instr.lookup 142 (.map (some n)) (.string k) false).run Tryz.prog W= .ok (Nv (N+1+gI k) (nH (gI k)).length (jk k) (gV k) (gU k) gb (gq k)) W:=by subst hg;exact fB hb hk false
theorem RP {a n f1 f2 f3 f4 f5:Nat} {w:World}:(Instr.field 141 (Nv a n f1 f2 f3 f4 f5) 3).run Tryz.prog w= .ok (.func (.func f3) #[] #[]) w:=by kernel_rfl
theorem RQ {a n f1 f2 f3 f4 f5:Nat} {w:World}:(Instr.field 141 (Nv a n f1 f2 f3 f4 f5) 4).run Tryz.prog w= .ok (.func (.func f4) #[] #[]) w:=by kernel_rfl
theorem agC (S:Nat→Prop) (g:Sk.Game) (s:Sk.State) (e:En) (Dk Dg Ds De:Nat) (w:World) (ho:Sk.Ok g s) (he:je w S e) (hK:Held w Dk [.bool (decide (e.x.kind=Sk.dW))] 4) (hG:Held w Dg (dN g) 23) (hS:Held w Ds (aQ s) 26) (hE:Held w De (fC e) 41):nX 128 #[ptr Dk,ptr Dg,ptr Ds,ptr De] (!(decide (e.x.kind=Sk.dW)) || Sk.iY g s e.x) w:=by
 refine ⟨enters_of Tryz.func128 (by kernel_rfl) rfl,fun W hb=>?_⟩;have h1:=hS.below hb;have h2:=hE.below hb;have h3:=hG.below hb;have g0:=h3.cell (j:=0) rfl;have Za:=h3.frozen 0;have h4:=hK.below hb;have q0:=h4.cell (j:=0) rfl;have qf0:=h4.frozen 0;have lk:=h4.lt;have lg:=h3.lt;have hk:=Sk.zZ ho.game;have hba:=fun W (hb:Below w.heap.size w W)=>BN S g s e W ho.inr.turn (he.below hb);have eg:=BF g.kind;have rlb:=@RP;obtain ⟨gb,hgb⟩:∃ x,gU g.kind=x:=⟨_,rfl⟩
 simp only [hgb] at hba eg
 have HGB:=hide hgb;have HBA:=hide hba
 have xX:∀ w':World,(fun w':World=>∀ p q,p<W.heap.size→w'.cell? ⟨p,q,none⟩=W.cell? ⟨p,q,none⟩) w'→w'.rangeAt Ds 0 (aQ s):=fun w' h j v hj=>by rw [h _ _ h1.lt];exact h1.range j v hj
 have hrE:∀ w':World,(fun w':World=>∀ p q,p<W.heap.size→w'.cell? ⟨p,q,none⟩=W.cell? ⟨p,q,none⟩) w'→w'.rangeAt De 0 (fC e):=fun w' h j v hj=>by rw [h _ _ h2.lt];exact h2.range j v hj
 clear hgb hba;obtain ⟨ys,hys⟩:∃ y,decide (e.x.kind=Sk.dW)=y:=⟨_,rfl⟩;rw [hys] at q0;have HKI:=hide hys;clear hys
 cases ys
 · go_enter Tryz.func128,Tryz.ntmps128
   go_upto_region 1 with (fail)
   refine wp_region_held_drew (S:=(fun w':World=>∀ p q,p<W.heap.size→w'.cell? ⟨p,q,none⟩=W.cell? ⟨p,q,none⟩)) (by kernel_rfl) ?bU (fun hHeld=>?_)
   case bU=>exact fun p q hp=>rfl
   refine tk 0 ?_;refine tk 1 ?_;refine tk 2 ?_;refine tu 3 ?_;refine tu 4 ?_;refine tu 5 ?_;refine tu 6 ?_;refine tu 7 ?_;refine tu 8 ?_;refine tu 9 ?_;refine tu 10 ?_;refine tk 11 ?_;refine tk 12 ?_;refine wpAnyH_done (by kernel_rfl) ?_ _;go_wp2;go_ret;exact ⟨aI (by rw [HKI.out];rfl),hb.drew⟩
 · go_enter Tryz.func128,Tryz.ntmps128
   go_upto_region 1 with (fail)
   refine wp_region_held_drew (S:=(fun w':World=>∀ p q,p<W.heap.size→w'.cell? ⟨p,q,none⟩=W.cell? ⟨p,q,none⟩)) (by kernel_rfl) ?cu (fun hHeld=>?_)
   case cu=>exact fun p q hp=>rfl
   refine tk 0 ?_;refine tk 1 ?_;refine tk 2 ?_;refine tk 4 ?_;refine tk 5 ?_;refine wpAnyH_take (i:=8) (oi:=_) (v:=_) (ga rfl) (by kernel_rfl) (by kernel_rfl) (by kernel_rfl) (fun _ _ _ h=>h) (yieldsIf_load_mid (by rfl) _ _ (by rfl) _ _ (by rfl) _ _ xX Tryz.underlying26 rfl (by kernel_rfl)) (by assumption) ?_
   try simp only [Act.put,la,lz,ls]
   refine wpAnyH_take (i:=9) (oi:=_) (v:=_) (ga rfl) (by kernel_rfl) (by kernel_rfl) (by kernel_rfl) (fun _ _ _ h=>h) (yieldsIf_load_mid (by rfl) _ _ (by rfl) _ _ (by rfl) _ _ hrE Tryz.underlying41 rfl (by kernel_rfl)) (by assumption) ?_
   try simp only [Act.put,la,lz,ls]
   refine tr 3 fun K hK=>?_;go_simp
   (go_at_call 58;refine (fV _).mono ?_;rintro e1 w1 ⟨rfl,g3⟩;have hl1:=Ox (lS (n:=W.heap.size) g3 (by simp)) hk HGB.out;have hb1:=g3.bw)
   refine hK.out _ _ ?Qr (fun hHeld=>?_)
   case Qr=>(exact fun p q hp=>hb1.cell (p:=⟨p,q,none⟩) hp)
   clear hK K
   try simp only [Act.put,la,lz,ls]
   refine tr 6 fun K hK=>?_;go_simp;refine hK.out _ _ ?Qw (fun hHeld=>?_)
   case Qw=>(exact fun p q hp=>hb1.cell (p:=⟨p,q,none⟩) hp)
   clear hK K
   try simp only [Act.put,la,lz,ls]
   refine tk 7 ?_;refine tr 10 fun K hK=>?_;go_simp
   (go_at_fn gb;refine (HBA.out _ (hb.drew.trans (hb1.mono hb.size))).mono ?_;rintro e2 w2 ⟨rfl,hb2⟩)
   refine hK.out _ _ ?Ae (fun hHeld=>?_)
   case Ae=>(exact fun p q hp=>(hb1.trans (hb2.mono hb1.size)).cell (p:=⟨p,q,none⟩) hp)
   clear hK K
   try simp only [Act.put,la,lz,ls]
   refine tk 11 ?_;refine tk 12 ?_;refine wpAnyH_done (by kernel_rfl) ?_ _;go_wp2;go_ret;exact ⟨aI (by rw [HKI.out];rfl),hb.drew.trans ((hb1.trans (hb2.mono hb1.size)).mono hb.size)⟩
theorem agJ (S:Nat→Prop) (g:Sk.Game) (s:Sk.State) (e:En) (Dk Dg Ds De:Nat) (w:World) (Zu:Sk.eF g s e.x=true) (hck:Sk.jc g e.x=0) (ho:Sk.Ok g s) (he:je w S e) (hK:Held w Dk [.bool (decide (e.x.kind=Sk.dW))] 4) (hG:Held w Dg (dN g) 23) (hS:Held w Ds (aQ s) 26) (hE:Held w De (fC e) 41):nX 129 #[ptr Dk,ptr Dg,ptr Ds,ptr De] (decide (e.x.kind=Sk.dW→max (Sk.next g s e.x).s0 (Sk.next g s e.x).s1≤99999)) w:=by
 refine ⟨enters_of Tryz.func129 (by kernel_rfl) rfl,fun W hb=>?_⟩;have h1:=hS.below hb;have h2:=hE.below hb;have h3:=hG.below hb;have h4:=hK.below hb;have q0:=h4.cell (j:=0) rfl;have qf0:=h4.frozen 0;have HNX:=hide fun W (hb:Below w.heap.size w W)=>vZ S g s e W ho hck Zu (he.below hb)
 obtain ⟨nx,hnx⟩:∃ x,Sk.next g s e.x=x:=⟨_,rfl⟩
 rw [hnx] at HNX ⊢;clear hnx Zu hck
 by_cases hk:e.x.kind=Sk.dW
 · rw [show decide (e.x.kind=Sk.dW)=true by simp [hk]] at q0
   rw [show decide (e.x.kind=Sk.dW→max nx.s0 nx.s1≤99999)=decide (max nx.s0 nx.s1≤99999) by simp [hk]];clear hk
   go_enter Tryz.func129,Tryz.ntmps129
   have hZ:=Held.new W (aQ Sk.zero) 26
   go_wp2_with (first | ((with_reducible refine dh 23 1 ?_);refine dO (h3) Tryz.underlying23 fG ?_) | ((with_reducible refine iV 23 1 ?_);refine nO (h3) Tryz.underlying23 fG ?_) | ((with_reducible refine dh 26 2 ?_);refine dO (h1) Tryz.underlying26 ak ?_) | ((with_reducible refine iV 26 2 ?_);refine nO (h1) Tryz.underlying26 ak ?_) | ((with_reducible refine dh 41 3 ?_);refine dO (h2) Tryz.underlying41 bY ?_) | ((with_reducible refine iV 41 3 ?_);refine nO (h2) Tryz.underlying41 bY ?_) | (go_at_call 65;refine (HNX.out _ hb).mono ?_;rintro e1 w1 ⟨rfl,hb1⟩) | ((with_reducible refine isS 26 5 11 ?_);refine iZ (hZ') (aQ nx) ak (bI _) ?_))
   all_goals
    go_ret;exact ⟨aI (by rw [decide_eq_decide];omega),(hb.trans (hb1.mono hb.size)).alloc (Nat.le_trans hb.size hb1.size) _⟩
 · rw [show decide (e.x.kind=Sk.dW)=false by simp [hk]] at q0
   rw [show decide (e.x.kind=Sk.dW→max nx.s0 nx.s1≤99999)=true by simp [hk]];clear hk
   go_enter Tryz.func129,Tryz.ntmps129
   go_wp2;go_ret;exact ⟨rfl,hb⟩
def lgF:Nat→Nat
 | 0=>124
 | 1=>125
 | 2=>126
 | 3=>128
 | _=>129
def lgB (n D:Nat):Nat→Array Value
 | 0=> #[ptr (n+1)]
 | 1=> #[ptr (n+1),ptr (n+2)]
 | _=> #[ptr D,ptr n,ptr (n+1),ptr (n+2)]
def V9 (g:Sk.Game) (s:Sk.State) (e:Sk.Entry):List Bool:=[decide (s.ay<0),oP s e,Sk.eF g s e, !(decide (e.kind=Sk.dW)) || Sk.iY g s e,decide (e.kind=Sk.dW→max (Sk.next g s e).s0 (Sk.next g s e).s1≤99999)]
theorem vH {α:Type} {p:Bool} {q:Prop} [Decidable q] {x y k:α} (h:p=true↔¬ q) (hx:x=y):(if p=true then x else k)=if q then k else y:=by
 subst hx
 by_cases hq:q
 · rw [if_pos hq,if_neg (fun e=>h.1 e hq)]
 · rw [if_neg hq,if_pos (h.2 hq)]
theorem LC (g:Sk.Game) (s:Sk.State) (e:Sk.Entry):brk 1 (V9 g s e)=Sk.legal g s e:=by
 unfold Sk.legal V9 brk brk brk brk brk brk oP
 refine vH ?_ (vH ?_ (vH ?_ (vH ?_ (vH ?_ rfl))))
 · simp
 · cases s.aO <;> simp [not_or]
 · simp
 · simp only [Bool.or_eq_true,Bool.not_eq_true',decide_eq_false_iff_not,not_and]
   cases Sk.iY g s e <;> simp
 · simp only [decide_eq_true_eq,not_and,Int.not_lt]
theorem qV (S:Nat→Prop) (g:Sk.Game) (s:Sk.State) (e:En) (w:World) (ho:Sk.Ok g s) (hk:Sk.jc g e.x=0) (he:je w S e):Calls Tryz.prog 63 #[rF g,lJ s,wC e] w fun e_ w'=>e_= .returned (.int .i64 (Sk.legal g s e.x))∧Below w.heap.size w w':=by
 go_enter Tryz.func63,Tryz.ntmps63
 go_upto_region 0 with (fail)
 go_cut [3,4,5,6] (fun v3 v4 v5 v6 wx=>v3=ptr w.heap.size∧v4=ptr (w.heap.size+1)∧v5=ptr (w.heap.size+2)∧v6= .int .i64 0∧aC w wx [(dN g,23),(aQ s,26),(fC e,41)])
 case first=>
  go_wp2;go_meet;exact ⟨rfl,rfl,rfl,rfl,((((aC.nil w).new (by simp) (dN g) _).new (by simp) (aQ s) _).new (by simp) (fC e) _)⟩
 case rest=>
  obtain ⟨rfl,rfl,rfl,rfl,hB⟩:=hcut;have x0:=(hB.get 2 rfl).cell (j:=0) rfl;have hsz:=hB.size (by simp)
  go_upto_region 1 with (fail)
  go_cut [7] (fun v7 wx=>∃ D,v7=ptr D∧Held wx D [.bool (decide (e.x.kind=Sk.dW))] 4∧aC w wx [(dN g,23),(aQ s,26),(fC e,41)])
  case first=>
   by_cases hk:e.x.kind=Sk.dW
   · have hk1:=wt hk
     have hk2:decide (e.x.kind=Sk.dW)=true:=by simp [hk]
     have HK2:=hide hk2;clear hk hk2;go_wp2;go_meet;rw [HK2.out];exact ⟨_,rfl,Held.new wc [.bool true] _,hB.alloc (by simp) _⟩
   · have hk1:=wf hk
     have hk2:decide (e.x.kind=Sk.dW)=false:=by simp [hk]
     have HK2:=hide hk2;clear hk hk2;go_wp2;go_meet;rw [HK2.out];exact ⟨_,rfl,Held.new wc [.bool false] _,hB.alloc (by simp) _⟩
  case rest=>
   obtain ⟨D,rfl,hD4,hB4⟩:=hcut
   have hW:∀ (W:World),Below wc.heap.size wc W→∀ j (hj:j<(V9 g s e.x).length),(∀ i (hi:i<(V9 g s e.x).length),i<j→(V9 g s e.x)[i]=true)→nX (lgF j) (lgB w.heap.size D j) (V9 g s e.x)[j] W:=by
    intro W hb j hj hp;have eH:=hB4.call (by simp) hb;have hE5:=he.below eH.bw;have hG5:=eH.get 0 rfl;have hS5:=eH.get 1 rfl;have hE6:=eH.get 2 rfl;have hK5:=hD4.below hb
    match j,hj,hp with
    | 0,_,_=>exact agf s _ W hS5
    | 1,_,_=>exact agn s e _ _ W hS5 hE6
    | 2,_,_=>exact agv g s e _ _ _ _ W hK5 hG5 hS5 hE6
    | 3,_,_=>exact agC S g s e _ _ _ _ W ho hE5 hK5 hG5 hS5 hE6
    | 4,_,hp=>exact agJ S g s e _ _ _ _ W (hp 2 (by simp [V9]) (by omega)) hk ho hE5 hK5 hG5 hS5 hE6
   have hBR:∀ t,Calls Tryz.prog 123 #[.slice (some ⟨wc.heap.size,0,none⟩) 5 5] (wc.alloc (.cells #[.func (.func 124) #[] #[ptr (w.heap.size+1)],.func (.func 125) #[] #[ptr (w.heap.size+1),ptr (w.heap.size+2)],.func (.func 126) #[] #[ptr D,ptr w.heap.size,ptr (w.heap.size+1),ptr (w.heap.size+2)],.func (.func 128) #[] #[ptr D,ptr w.heap.size,ptr (w.heap.size+1),ptr (w.heap.size+2)],.func (.func 129) #[] #[ptr D,ptr w.heap.size,ptr (w.heap.size+1),ptr (w.heap.size+2)]] t)) fun r w'=>r= .returned (.int .i64 (Sk.legal g s e.x))∧Below w.heap.size w w':=by
    intro t;refine (H9 wc.heap.size 0 5 5 lgF (lgB w.heap.size D) (V9 g s e.x) _ rfl (by omega) (by simp) ?_ (hW _ ((Below.refl _ _).alloc (Nat.le_refl _) _))).mono ?_
    · intro j hj
      rw [Nat.zero_add]
      match j,hj with
      | 0,_=>exact pV _ [_,_,_,_,_] _ _ rfl 0 _ rfl
      | 1,_=>exact pV _ [_,_,_,_,_] _ _ rfl 1 _ rfl
      | 2,_=>exact pV _ [_,_,_,_,_] _ _ rfl 2 _ rfl
      | 3,_=>exact pV _ [_,_,_,_,_] _ _ rfl 3 _ rfl
      | 4,_=>exact pV _ [_,_,_,_,_] _ _ rfl 4 _ rfl
    · rintro e w' ⟨rfl,hb'⟩
      exact ⟨by rw [LC],(hB4.alloc (by simp) _).bw.trans (hb'.mono ((hB4.alloc (by simp) _).bw.size))⟩
   have HBR:=hide hBR;clear hBR hW
   go_wp2_with (go_at_call 123;refine (HBR.out _).mono ?_;rintro e w2 ⟨rfl,hb2⟩)
   go_ret;exact ⟨rfl,hb2⟩
theorem AO:∀ (k:Nat) (c:Int),Sk.jL c (k+1)=Sk.jL c k+(c+k)
 | 0,c=>by simp [Sk.jL]
 | k+1,c=>by
   rw [Sk.jL,AO k (c+1),Sk.jL]
   push_cast
   omega
theorem KH (c:Int) (h:0≤c):∀ k:Nat,(k:Int)≤8 - c→0≤Sk.jL c k∧Sk.jL c k≤8*k
 | 0,_=>by simp [Sk.jL]
 | k+1,hk=>by
   have:=KH c h k (by omega)
   rw [AO]
   omega
theorem rX (s:Sk.State) (hc:0≤s.colour∧s.colour≤7) (hre:0≤s.aW∧s.aW≤15) (w:World):Calls Tryz.prog 26 #[lJ s] w fun e w'=>e= .returned (.int .i64 (Sk.left s))∧Below w.heap.size w w':=by
 go_enter Tryz.func26,Tryz.ntmps26
 go_upto_region 0 with (fail)
 go_cut [1,2] (fun v1 v2 wx=>v1=ptr w.heap.size∧v2= .int .i64 0∧aC w wx [(aQ s,26)])
 case first=>
  go_wp2;go_meet;exact ⟨rfl,rfl,((aC.nil w).new (by simp) (aQ s) _)⟩
 case rest=>
  obtain ⟨rfl,rfl,hB⟩:=hcut;have hF:=hB.aj rfl;have k4:=hF.cell (j:=4) rfl;have S9:=hF.frozen 4;have k5:=hF.cell (j:=5) rfl;have kf5:=hF.frozen 5;have k6:=hF.cell (j:=6) rfl;have UQ:=hF.frozen 6;have k7:=hF.cell (j:=7) rfl;have Px:=hF.frozen 7;have k12:=hF.cell (j:=12) rfl;have aaj:=hF.frozen 12
  by_cases h1:0≤s.ay
  · have h11:decide (0≤s.ay)=true:=decide_eq_true h1
    have HM:=hide (show Sk.left s=0 by unfold Sk.left;rw [if_pos h1]);clear h1;go_wp2;go_ret;exact ⟨bG HM.out.symm,hB.bw⟩
  · have h11:decide (0≤s.ay)=false:=decide_eq_false h1
    by_cases h2:s.phase=Sk.gu
    · have h21:=wt h2
      rcases Bool.eq_false_or_eq_true s.free with hf | hf
      all_goals
       rw [hf] at k7;have HM:=hide (show Sk.left s=8*s.aW+27+(if s.free then 8 else 0) by unfold Sk.left;rw [if_neg h1,if_pos h2]);have HF:=hide hf;clear hf
       try clear h1 h2
       go_wp2;go_ret;exact ⟨bG (by rw [HM.out,HF.out];simp),hB.bw⟩
    · have h21:=wf h2
      by_cases h3:s.phase=Sk.bV
      · have h31:=wt h3
        have HM:=hide (show Sk.left s=8*s.aW+27+7 by unfold Sk.left;rw [if_neg h1,if_neg h2,if_pos h3]);clear h1 h2 h3;go_wp2;go_ret;exact ⟨bG (by rw [HM.out]),hB.bw⟩
      · have h31:=wf h3
        have HM:=hide (show Sk.left s=Sk.jL s.colour (8 - s.colour).toNat+(if s.free∧s.colour<7 then s.colour else 0) by unfold Sk.left;rw [if_neg h1,if_neg h2,if_neg h3]);clear h1 h2 h3;go_wp2
        go_loop [4,5] (fun v4 v5=>∃ k:Nat,(k:Int)≤8 - s.colour∧v5= .int .i64 (s.colour+k)∧v4= .int .i64 (Sk.jL s.colour k)) (fun _ v5=>(8 - intOf v5).toNat)
        case atStart=>exact ⟨0,by omega,by simp,rfl⟩
        case round=>
         obtain ⟨k,hk,rfl,rfl⟩:=hrel;have htp:=KH s.colour hc.1 k hk
         by_cases hlt:s.colour+k≤7
         · have hl1:decide (s.colour+(k:Int)≤7)=true:=decide_eq_true hlt
           have hsm:=AO k s.colour;obtain ⟨m,hm⟩:∃ m,Sk.jL s.colour k=m:=⟨_,rfl⟩;rw [hm] at hsm htp ⊢;have HS:=hide hsm;clear hsm hm;go_wp2
           go_round
           case rel=>exact ⟨k+1,by omega,congrArg (Value.int .i64) (by push_cast;omega),congrArg (Value.int .i64) (by have h:=HS.out;omega)⟩
           case measure=>simp [intOf];omega
         · have hl1:decide (s.colour+(k:Int)≤7)=false:=decide_eq_false hlt
           have hk8:(8 - s.colour).toNat=k:=by omega
           have qA:=hide (show Sk.left s=Sk.jL s.colour k+(if s.free∧s.colour<7 then s.colour else 0) by rw [HM.out,hk8]);obtain ⟨m,hm⟩:∃ m,Sk.jL s.colour k=m:=⟨_,rfl⟩;rw [hm] at htp qA ⊢;clear hk8 hm hlt
           rcases Bool.eq_false_or_eq_true s.free with hf | hf
           · rw [hf] at k7
             have HF:=hide hf;clear hf
             by_cases h7:s.colour<7
             · have h71:decide (s.colour<7)=true:=decide_eq_true h7
               go_wp2;go_ret;exact ⟨bG (by rw [qA.out,if_pos ⟨HF.out,h7⟩]),hB.bw⟩
             · have h71:decide (s.colour<7)=false:=decide_eq_false h7
               go_wp2;go_ret;exact ⟨bG (by rw [qA.out,if_neg (fun h=>by have:=h.2;omega)];omega),hB.bw⟩
           · rw [hf] at k7
             have HF:=hide hf;clear hf;go_wp2;go_ret;exact ⟨bG (by rw [qA.out,if_neg (fun h=>by have:=h.1;rw [HF.out] at this;cases this)];omega),hB.bw⟩
theorem Cc {g:Sk.Game} {s:Sk.State} (h:Sk.bW g s=0):(0≤s.colour∧s.colour≤7)∧(0≤s.aW∧s.aW≤15)∧(s.turn=0∨s.turn=1):=by
 have ho:=Sk.kL.1 h;have hi:=ho.inr;have hg:=Sk.gW ho.game;have h1:=hi.colour;have h2:=hi.aW;exact ⟨h1,by rcases hg with ⟨_,h3,_⟩ | ⟨_,h3,_⟩ | ⟨_,h3,_⟩ <;> omega,hi.turn⟩
theorem qK (c:Int) (b:Bool) (e:Int):fst [c,jA b e]=if c≠0 then c else jA b e:=by
 unfold fst fst fst
 by_cases h:c=0
 · simp only [h,ne_eq,not_true,if_false]
   by_cases h2:jA b e=0 <;> simp [h2]
 · simp [h]
theorem Jz (g:Sk.Game) (s:Sk.State) (w:World):Calls Tryz.prog 7 #[rF g,lJ s] w fun e w'=>e= .returned (.tuple #[.int .i64 (if fst [Sk.bW g s,jA (decide (g.kind≠Sk.aK)) 13]=0 then Sk.left s else 0),.int .i64 (fst [Sk.bW g s,jA (decide (g.kind≠Sk.aK)) 13])])∧Below w.heap.size w w':=by
 by_cases hg:g.kind=Sk.aK
 · have hg1:=wt hg
   have hg2:(g.kind.toList != [115,110,111,111,107,101,114])=false:=by rw [bne,hg1];rfl
   rw [show decide (g.kind≠Sk.aK)=false by simp [hg]];clear hg
   by_cases hz:fst [Sk.bW g s,jA false 13]=0
   · have hz':(fst [Sk.bW g s,jA false 13] != 0)=false:=by simp [hz]
     have hck:Sk.bW g s=0:=by rw [qK] at hz;by_cases h:Sk.bW g s=0;exact h;rw [if_pos h] at hz;exact hz
     obtain ⟨Uu,zS,_⟩:=Cc hck;rw [if_pos hz];have HZ:=hide hz;clear hz hck
     go_enter Tryz.func7,Tryz.ntmps7
     go_upto_region 0 with (fail)
     go_cut [2,3,4,5] (fun v2 v3 v4 v5 wx=>v2=ptr w.heap.size∧v3=ptr (w.heap.size+1)∧v4= .int .i64 0∧v5= .int .i64 0∧aC w wx [(dN g,23),(aQ s,26)])
     case first=>
      go_wp2;go_meet;exact ⟨rfl,rfl,rfl,rfl,(((aC.nil w).new (by simp) (dN g) _).new (by simp) (aQ s) _)⟩
     case rest=>
      obtain ⟨rfl,rfl,rfl,rfl,hB⟩:=hcut;have hsz:=hB.size (by simp)
      simp only [List.length_cons,List.length_nil] at hsz
      have k0:=(hB.aj rfl).cell (j:=0) rfl
      have hrG:∀ W:World,(fun w':World=>∀ p q,p<w.heap.size+2→w'.cell? ⟨p,q,none⟩=wc.cell? ⟨p,q,none⟩) W→W.rangeAt w.heap.size 0 (dN g):=fun W h j v hj=>by rw [h _ _ (by omega)];exact (hB.aj rfl).range j v hj
      have xX:∀ W:World,(fun w':World=>∀ p q,p<w.heap.size+2→w'.cell? ⟨p,q,none⟩=wc.cell? ⟨p,q,none⟩) W→W.rangeAt (w.heap.size+1) 0 (aQ s):=fun W h j v hj=>by rw [h _ _ (by omega)];exact (hB.get 1 rfl).range j v hj
      go_upto_region 1 with (fail)
      refine wp_region_held_drew (S:=(fun w':World=>∀ p q,p<w.heap.size+2→w'.cell? ⟨p,q,none⟩=wc.cell? ⟨p,q,none⟩)) (by kernel_rfl) ?bU (fun hHeld=>?_)
      case bU=>exact fun p q h=>rfl
      refine bP 0 hrG Tryz.underlying23 ?_;refine bP 1 xX Tryz.underlying26 ?_;refine aA 3 ?_;refine aA 4 ?_;refine aA 5 ?_;refine aB 2 fun K hK=>?_;go_simp
      (go_at_call 24;refine (lG g s _).mono ?_;rintro e1 w1 ⟨rfl,hb1⟩;have hb8:Below wc.heap.size wc w1:=⟨hb1.os,hb1.tape,hb1.output,hb1.size,hb1.block⟩;have hB1:=hB.drew.call (by simp) hb1)
      refine au hK (fun p q h=>hb8.cell (p:=⟨p,q,none⟩) (Nat.lt_of_lt_of_le h hsz)) fun hHeld=>?_;clear hK K;refine aB 6 fun K hK=>?_;go_simp
      (go_at_call 25;refine (dJ _ _ _).mono ?_;rintro e1 oh ⟨rfl,rfl⟩)
      refine au hK (by first | exact fun p q h=>hb8.cell (p:=⟨p,q,none⟩) (Nat.lt_of_lt_of_le h hsz) | exact fun p q h=>rfl) fun hHeld=>?_;clear hK K;refine aB 7 fun K hK=>?_;go_simp;refine au hK (fun p q h=>(hb8.alloc hb8.size _).cell (p:=⟨p,q,none⟩) (Nat.lt_of_lt_of_le h hsz)) fun hHeld=>?_;clear hK K;refine aB 8 fun K hK=>?_;go_simp
      (go_at_call 23;refine (iO (fun _=>True) _ _ [Sk.bW g s,jA false 13] _ (kX.row _ _ [Sk.bW g s,jA false 13] (by simp) _ trivial)).mono ?_;rintro e1 oh ⟨rfl,rfl⟩)
      refine au hK (fun p q h=>(hb8.alloc hb8.size _).cell (p:=⟨p,q,none⟩) (Nat.lt_of_lt_of_le h hsz)) fun hHeld=>?_;clear hK K;refine aA 9 ?_;refine wpAnyH_done (by kernel_rfl) ?_ _;have jP:=hB1.alloc (by simp) (.cells #[.int .i64 (Sk.bW g s),.int .i64 (jA false 13)] 31)
      go_wp2_with (first | ((with_reducible refine dh 26 3 ?_);refine dO (jP.get 1 rfl) Tryz.underlying26 ak ?_) | (go_at_call 26;refine (rX s Uu zS _).mono ?_;rintro e1 w5 ⟨rfl,hb5⟩;have jP:=jP.call (by simp) hb5))
      go_ret2;exact ⟨by first | rfl | (rw [HZ.out];rfl),jP.bw⟩
   · have hz':(fst [Sk.bW g s,jA false 13] != 0)=true:=by simp [hz]
     rw [if_neg hz];have HZ:=hide hz;clear hz
     go_enter Tryz.func7,Tryz.ntmps7
     go_upto_region 0 with (fail)
     go_cut [2,3,4,5] (fun v2 v3 v4 v5 wx=>v2=ptr w.heap.size∧v3=ptr (w.heap.size+1)∧v4= .int .i64 0∧v5= .int .i64 0∧aC w wx [(dN g,23),(aQ s,26)])
     case first=>
      go_wp2;go_meet;exact ⟨rfl,rfl,rfl,rfl,(((aC.nil w).new (by simp) (dN g) _).new (by simp) (aQ s) _)⟩
     case rest=>
      obtain ⟨rfl,rfl,rfl,rfl,hB⟩:=hcut;have hsz:=hB.size (by simp)
      simp only [List.length_cons,List.length_nil] at hsz
      have k0:=(hB.aj rfl).cell (j:=0) rfl
      have hrG:∀ W:World,(fun w':World=>∀ p q,p<w.heap.size+2→w'.cell? ⟨p,q,none⟩=wc.cell? ⟨p,q,none⟩) W→W.rangeAt w.heap.size 0 (dN g):=fun W h j v hj=>by rw [h _ _ (by omega)];exact (hB.aj rfl).range j v hj
      have xX:∀ W:World,(fun w':World=>∀ p q,p<w.heap.size+2→w'.cell? ⟨p,q,none⟩=wc.cell? ⟨p,q,none⟩) W→W.rangeAt (w.heap.size+1) 0 (aQ s):=fun W h j v hj=>by rw [h _ _ (by omega)];exact (hB.get 1 rfl).range j v hj
      go_upto_region 1 with (fail)
      refine wp_region_held_drew (S:=(fun w':World=>∀ p q,p<w.heap.size+2→w'.cell? ⟨p,q,none⟩=wc.cell? ⟨p,q,none⟩)) (by kernel_rfl) ?cu (fun hHeld=>?_)
      case cu=>exact fun p q h=>rfl
      refine bP 0 hrG Tryz.underlying23 ?_;refine bP 1 xX Tryz.underlying26 ?_;refine aA 3 ?_;refine aA 4 ?_;refine aA 5 ?_;refine aB 2 fun K hK=>?_;go_simp
      (go_at_call 24;refine (lG g s _).mono ?_;rintro e1 w1 ⟨rfl,hb1⟩;have hb8:Below wc.heap.size wc w1:=⟨hb1.os,hb1.tape,hb1.output,hb1.size,hb1.block⟩;have hB1:=hB.drew.call (by simp) hb1)
      refine au hK (fun p q h=>hb8.cell (p:=⟨p,q,none⟩) (Nat.lt_of_lt_of_le h hsz)) fun hHeld=>?_;clear hK K;refine aB 6 fun K hK=>?_;go_simp
      (go_at_call 25;refine (dJ _ _ _).mono ?_;rintro e1 oh ⟨rfl,rfl⟩)
      refine au hK (by first | exact fun p q h=>hb8.cell (p:=⟨p,q,none⟩) (Nat.lt_of_lt_of_le h hsz) | exact fun p q h=>rfl) fun hHeld=>?_;clear hK K;refine aB 7 fun K hK=>?_;go_simp;refine au hK (fun p q h=>(hb8.alloc hb8.size _).cell (p:=⟨p,q,none⟩) (Nat.lt_of_lt_of_le h hsz)) fun hHeld=>?_;clear hK K;refine aB 8 fun K hK=>?_;go_simp
      (go_at_call 23;refine (iO (fun _=>True) _ _ [Sk.bW g s,jA false 13] _ (kX.row _ _ [Sk.bW g s,jA false 13] (by simp) _ trivial)).mono ?_;rintro e1 oh ⟨rfl,rfl⟩)
      refine au hK (fun p q h=>(hb8.alloc hb8.size _).cell (p:=⟨p,q,none⟩) (Nat.lt_of_lt_of_le h hsz)) fun hHeld=>?_;clear hK K;refine aA 9 ?_;refine wpAnyH_done (by kernel_rfl) ?_ _;have jP:=hB1.alloc (by simp) (.cells #[.int .i64 (Sk.bW g s),.int .i64 (jA false 13)] 31);go_wp2;go_ret2;exact ⟨rfl,jP.bw⟩
 · have hg1:=wf hg
   have hg2:(g.kind.toList != [115,110,111,111,107,101,114])=true:=by rw [bne,hg1];rfl
   rw [show decide (g.kind≠Sk.aK)=true by simp [hg]];clear hg
   have hz:¬ fst [Sk.bW g s,jA true 13]=0:=by
    rw [qK]
    by_cases h:Sk.bW g s=0
    · rw [if_neg (by simpa using h)];decide
    · rw [if_pos h];exact h
   have hz':(fst [Sk.bW g s,jA true 13] != 0)=true:=by simp [hz]
   rw [if_neg hz];have HZ:=hide hz;clear hz
   go_enter Tryz.func7,Tryz.ntmps7
   go_upto_region 0 with (fail)
   go_cut [2,3,4,5] (fun v2 v3 v4 v5 wx=>v2=ptr w.heap.size∧v3=ptr (w.heap.size+1)∧v4= .int .i64 0∧v5= .int .i64 0∧aC w wx [(dN g,23),(aQ s,26)])
   case first=>
    go_wp2;go_meet;exact ⟨rfl,rfl,rfl,rfl,(((aC.nil w).new (by simp) (dN g) _).new (by simp) (aQ s) _)⟩
   case rest=>
    obtain ⟨rfl,rfl,rfl,rfl,hB⟩:=hcut;have hsz:=hB.size (by simp)
    simp only [List.length_cons,List.length_nil] at hsz
    have k0:=(hB.aj rfl).cell (j:=0) rfl
    have hrG:∀ W:World,(fun w':World=>∀ p q,p<w.heap.size+2→w'.cell? ⟨p,q,none⟩=wc.cell? ⟨p,q,none⟩) W→W.rangeAt w.heap.size 0 (dN g):=fun W h j v hj=>by rw [h _ _ (by omega)];exact (hB.aj rfl).range j v hj
    have xX:∀ W:World,(fun w':World=>∀ p q,p<w.heap.size+2→w'.cell? ⟨p,q,none⟩=wc.cell? ⟨p,q,none⟩) W→W.rangeAt (w.heap.size+1) 0 (aQ s):=fun W h j v hj=>by rw [h _ _ (by omega)];exact (hB.get 1 rfl).range j v hj
    go_upto_region 1 with (fail)
    refine wp_region_held_drew (S:=(fun w':World=>∀ p q,p<w.heap.size+2→w'.cell? ⟨p,q,none⟩=wc.cell? ⟨p,q,none⟩)) (by kernel_rfl) ?dF (fun hHeld=>?_)
    case dF=>exact fun p q h=>rfl
    refine bP 0 hrG Tryz.underlying23 ?_;refine bP 1 xX Tryz.underlying26 ?_;refine aA 3 ?_;refine aA 4 ?_;refine aA 5 ?_;refine aB 2 fun K hK=>?_;go_simp
    (go_at_call 24;refine (lG g s _).mono ?_;rintro e1 w1 ⟨rfl,hb1⟩;have hb8:Below wc.heap.size wc w1:=⟨hb1.os,hb1.tape,hb1.output,hb1.size,hb1.block⟩;have hB1:=hB.drew.call (by simp) hb1)
    refine au hK (fun p q h=>hb8.cell (p:=⟨p,q,none⟩) (Nat.lt_of_lt_of_le h hsz)) fun hHeld=>?_;clear hK K;refine aB 6 fun K hK=>?_;go_simp
    (go_at_call 25;refine (dJ _ _ _).mono ?_;rintro e1 oh ⟨rfl,rfl⟩)
    refine au hK (by first | exact fun p q h=>hb8.cell (p:=⟨p,q,none⟩) (Nat.lt_of_lt_of_le h hsz) | exact fun p q h=>rfl) fun hHeld=>?_;clear hK K;refine aB 7 fun K hK=>?_;go_simp;refine au hK (fun p q h=>(hb8.alloc hb8.size _).cell (p:=⟨p,q,none⟩) (Nat.lt_of_lt_of_le h hsz)) fun hHeld=>?_;clear hK K;refine aB 8 fun K hK=>?_;go_simp
    (go_at_call 23;refine (iO (fun _=>True) _ _ [Sk.bW g s,jA true 13] _ (kX.row _ _ [Sk.bW g s,jA true 13] (by simp) _ trivial)).mono ?_;rintro e1 oh ⟨rfl,rfl⟩)
    refine au hK (fun p q h=>(hb8.alloc hb8.size _).cell (p:=⟨p,q,none⟩) (Nat.lt_of_lt_of_le h hsz)) fun hHeld=>?_;clear hK K;refine aA 9 ?_;refine wpAnyH_done (by kernel_rfl) ?_ _;have jP:=hB1.alloc (by simp) (.cells #[.int .i64 (Sk.bW g s),.int .i64 (jA true 13)] 31);go_wp2;go_ret2;exact ⟨rfl,jP.bw⟩
theorem um {g:Sk.Game} {s:Sk.State} {e:Sk.Entry} (h:iQ g s e=0):Sk.Ok g s∧Sk.jc g e=0:=by
 unfold iQ at h
 by_cases h1:Sk.bW g s=0
 · rw [if_neg (by simpa using h1)] at h;exact ⟨Sk.kL.1 h1,h⟩
 · rw [if_pos h1] at h;exact absurd h h1
def Kw (g:Sk.Game) (s:Sk.State) (e:Sk.Entry):Int:=if iQ g s e=0 then Sk.legal g s e else 0
theorem yE (S:Nat→Prop) (g:Sk.Game) (s:Sk.State) (e:En) (w:World) (he:je w S e):Calls Tryz.prog 64 #[rF g,lJ s,wC e] w fun e_ w'=>e_= .returned (.tuple #[.int .i64 (Kw g s e.x),.int .i64 (iQ g s e.x)])∧Below w.heap.size w w':=by
 go_enter Tryz.func64,Tryz.ntmps64
 go_upto_region 0 with (fail)
 go_cut [3,4,5,6,7] (fun v3 v4 v5 v6 v7 wx=>v3=ptr w.heap.size∧v4=ptr (w.heap.size+1)∧v5=ptr (w.heap.size+2)∧v6= .int .i64 0∧v7= .int .i64 0∧aC w wx [(dN g,23),(aQ s,26),(fC e,41)])
 case first=>
  go_wp2;go_meet;exact ⟨rfl,rfl,rfl,rfl,rfl,((((aC.nil w).new (by simp) (dN g) _).new (by simp) (aQ s) _).new (by simp) (fC e) _)⟩
 case rest=>
  obtain ⟨rfl,rfl,rfl,rfl,rfl,hB⟩:=hcut
  by_cases hz:iQ g s e.x=0
  · have hz':(iQ g s e.x != 0)=false:=by simp [hz]
    obtain ⟨ho,hen⟩:=um hz;have uP:=hide (show Kw g s e.x=Sk.legal g s e.x by unfold Kw;rw [if_pos hz]);have HZ:=hide hz;clear hz
    go_wp2_with (first | ((with_reducible refine dh 23 3 ?_);refine dO (hB.aj rfl) Tryz.underlying23 fG ?_) | ((with_reducible refine dh 26 4 ?_);refine dO (hB.get 1 rfl) Tryz.underlying26 ak ?_) | ((with_reducible refine dh 41 5 ?_);refine dO (hB.get 2 rfl) Tryz.underlying41 bY ?_) | ((with_reducible refine dh 23 3 ?_);refine dO (hB1.aj rfl) Tryz.underlying23 fG ?_) | ((with_reducible refine dh 26 4 ?_);refine dO (hB1.get 1 rfl) Tryz.underlying26 ak ?_) | ((with_reducible refine dh 41 5 ?_);refine dO (hB1.get 2 rfl) Tryz.underlying41 bY ?_) | (go_at_call 62;refine (rW S g s e _ (he.below hB.bw)).mono ?_;rintro e1 w1 ⟨rfl,hb1⟩;have hB1:=hB.call (by simp) hb1) | (go_at_call 63;refine (qV S g s e _ ho hen (he.below hB1.bw)).mono ?_;rintro e1 w2 ⟨rfl,hb2⟩;have hB2:=hB1.call (by simp) hb2))
    go_ret2;exact ⟨by rw [uP.out,HZ.out];rfl,hB2.bw⟩
  · have hz':(iQ g s e.x != 0)=true:=by simp [hz]
    have uP:=hide (show Kw g s e.x=0 by unfold Kw;rw [if_neg hz]);clear hz
    go_wp2_with (first | ((with_reducible refine dh 23 3 ?_);refine dO (hB.aj rfl) Tryz.underlying23 fG ?_) | ((with_reducible refine dh 26 4 ?_);refine dO (hB.get 1 rfl) Tryz.underlying26 ak ?_) | ((with_reducible refine dh 41 5 ?_);refine dO (hB.get 2 rfl) Tryz.underlying41 bY ?_) | (go_at_call 62;refine (rW S g s e _ (he.below hB.bw)).mono ?_;rintro e1 w1 ⟨rfl,hb1⟩;have hB1:=hB.call (by simp) hb1))
    go_ret2;exact ⟨by rw [uP.out];rfl,hB1.bw⟩
def PN (g:Sk.Game) (s:Sk.State) (e:Sk.Entry):Int:=fst [iQ g s e,jA (decide (Kw g s e≠0)) 18]
theorem PO {g:Sk.Game} {s:Sk.State} {e:Sk.Entry} (h:PN g s e=0):iQ g s e=0∧Sk.legal g s e=0:=by
 unfold PN at h
 rw [qK] at h
 by_cases h1:iQ g s e=0
 · rw [if_neg (by simpa using h1)] at h
   refine ⟨h1,?_⟩
   by_cases h2:Sk.legal g s e=0
   · exact h2
   · unfold Kw at h;rw [if_pos h1,decide_eq_true h2] at h;cases h
 · rw [if_pos h1] at h;exact absurd h h1
theorem I9 {g:Sk.Game} {s:Sk.State} {e:Sk.Entry} (h:Sk.legal g s e=0):Sk.eF g s e=true:=(Sk.oq.1 h).call
def XP (g:Sk.Game) (s:Sk.State) (e:Sk.Entry):Sk.State:=if PN g s e=0 then Sk.next g s e else Sk.zero
theorem GL (S:Nat→Prop) (g:Sk.Game) (s:Sk.State) (e:En) (w:World) (he:je w S e):Calls Tryz.prog 29 #[rF g,lJ s,wC e] w fun e_ w'=>e_= .returned (.tuple #[lJ (XP g s e.x),.int .i64 (PN g s e.x)])∧Below w.heap.size w w':=by
 go_enter Tryz.func29,Tryz.ntmps29
 go_upto_region 0 with (fail)
 go_cut [3,4,5,6,7] (fun v3 v4 v5 v6 v7 wx=>v3=ptr w.heap.size∧v4=ptr (w.heap.size+1)∧v5=ptr (w.heap.size+2)∧v6=ptr (w.heap.size+3)∧v7= .int .i64 0∧aC w wx [(dN g,23),(aQ s,26),(fC e,41),(aQ Sk.zero,26)])
 case first=>
  go_wp2;go_meet;exact ⟨rfl,rfl,rfl,rfl,rfl,(((((aC.nil w).new (by simp) (dN g) _).new (by simp) (aQ s) _).new (by simp) (fC e) _).new (by simp) (aQ Sk.zero) _)⟩
 case rest=>
  obtain ⟨rfl,rfl,rfl,rfl,rfl,hB⟩:=hcut
  by_cases hz:PN g s e.x=0
  · obtain ⟨hck,Xo⟩:=PO hz
    obtain ⟨ho,hen⟩:=um hck;have hca:=I9 Xo
    have hl:(Kw g s e.x != 0)=false:=by unfold Kw;rw [if_pos hck];simp [Xo]
    have hz':(fst [iQ g s e.x,jA false 18] != 0)=false:=by rw [qK,if_neg (by simpa using hck)];rfl
    have HE:=hide (show XP g s e.x=Sk.next g s e.x by unfold XP;rw [if_pos hz]);have HZ:=hide hz;clear hz hck Xo
    go_wp2_with (first | ((with_reducible refine dh 23 3 ?_);refine dO (hB3.aj rfl) Tryz.underlying23 fG ?_) | ((with_reducible refine dh 26 4 ?_);refine dO (hB3.get 1 rfl) Tryz.underlying26 ak ?_) | ((with_reducible refine dh 41 5 ?_);refine dO (hB3.get 2 rfl) Tryz.underlying41 bY ?_) | ((with_reducible refine dh 23 3 ?_);refine dO (hB.aj rfl) Tryz.underlying23 fG ?_) | ((with_reducible refine dh 26 4 ?_);refine dO (hB.get 1 rfl) Tryz.underlying26 ak ?_) | ((with_reducible refine dh 41 5 ?_);refine dO (hB.get 2 rfl) Tryz.underlying41 bY ?_) | (go_at_call 64;refine (yE S g s e _ (he.below hB.bw)).mono ?_;rintro e1 w1 ⟨rfl,hb1⟩;have hB1:=hB.call (by simp) hb1) | (go_at_call 25;refine (dJ _ _ _).mono ?_;rintro e1 oh ⟨rfl,rfl⟩) | (go_at_call 23;refine (iO (fun _=>True) _ _ [iQ g s e.x,jA false 18] _ (kX.row _ _ [iQ g s e.x,jA false 18] (by simp) _ trivial)).mono ?_;rintro e1 oh ⟨rfl,rfl⟩;have hB3:=hB1.alloc (by simp) (.cells #[.int .i64 (iQ g s e.x),.int .i64 (jA false 18)] 31)) | (go_at_call 65;refine (vZ S g s e _ ho hen hca (he.below hB3.bw)).mono ?_;rintro e1 w4 ⟨rfl,hb4⟩;have hB4:=hB3.call (by simp) hb4) | ((with_reducible refine isS 26 6 30 ?_);refine iZ (hB4.get 3 rfl) (aQ (Sk.next g s e.x)) ak (bI _) ?_))
    have eH:=hB4.put 3 rfl (aQ (Sk.next g s e.x)) rfl;refine bodyPost_ret (jW (p:=6) (eH.get 3 rfl) Tryz.underlying26 rfl ak rfl _ rfl) rfl ⟨?_,eH.bw⟩;rw [HE.out,HZ.out];rfl
  · obtain ⟨y,hl⟩:∃ y,(Kw g s e.x != 0)=y:=⟨_,rfl⟩
    have hE:PN g s e.x=fst [iQ g s e.x,jA y 18]:=by
     have hd:decide (Kw g s e.x≠0)=y:=by rw [← hl,Bool.eq_iff_iff];simp
     unfold PN
     rw [hd]
    have hz':(fst [iQ g s e.x,jA y 18] != 0)=true:=by rw [← hE];simp [hz]
    have HE:=hide (show XP g s e.x=Sk.zero by unfold XP;rw [if_neg hz]);have HZ:=hide hE;clear hz hE
    go_wp2_with (first | ((with_reducible refine dh 23 3 ?_);refine dO (hB.aj rfl) Tryz.underlying23 fG ?_) | ((with_reducible refine dh 26 4 ?_);refine dO (hB.get 1 rfl) Tryz.underlying26 ak ?_) | ((with_reducible refine dh 41 5 ?_);refine dO (hB.get 2 rfl) Tryz.underlying41 bY ?_) | (go_at_call 64;refine (yE S g s e _ (he.below hB.bw)).mono ?_;rintro e1 w1 ⟨rfl,hb1⟩;have hB1:=hB.call (by simp) hb1) | (go_at_call 25;refine (dJ _ _ _).mono ?_;rintro e1 oh ⟨rfl,rfl⟩) | (go_at_call 23;refine (iO (fun _=>True) _ _ [iQ g s e.x,jA y 18] _ (kX.row _ _ [iQ g s e.x,jA y 18] (by simp) _ trivial)).mono ?_;rintro e1 oh ⟨rfl,rfl⟩;have hB3:=hB1.alloc (by simp) (.cells #[.int .i64 (iQ g s e.x),.int .i64 (jA y 18)] 31)) | ((with_reducible refine isS 26 6 25 ?_);refine iZ (hB3.get 3 rfl) (aQ Sk.zero) ak (bI _) ?_))
    have eH:=hB3.put 3 rfl (aQ Sk.zero) rfl;refine bodyPost_ret (jW (p:=6) (eH.get 3 rfl) Tryz.underlying26 rfl ak rfl _ rfl) rfl ⟨?_,eH.bw⟩;rw [HE.out,HZ.out];rfl
def Tc (g:Sk.Game) (s:Sk.State) (p:Int):Int:=fst [Sk.bW g s,jA (Sk.out p 0 1) 3,jA (decide (g.kind≠Sk.aK)) 13,jA (decide (0≤s.ay)) 20]
def ndV (g:Sk.Game) (s:Sk.State) (p:Int):Int:=if Tc g s p=0 then Sk.needed s p else 0
theorem vC (c:Int) (l:List Int):fst (c::l)=if c≠0 then c else fst l:=rfl
theorem SI {b:Bool} {e:Int} (he:e≠0):jA b e=0↔b=false:=by unfold jA;cases b <;> simp [he]
theorem PL {g:Sk.Game} {s:Sk.State} {p:Int} (h:Tc g s p=0):Sk.bW g s=0∧(p=0∨p=1)∧g.kind=Sk.aK∧s.ay<0:=by
 unfold Tc at h
 rw [vC,vC,vC,vC] at h
 by_cases h1:Sk.bW g s=0
 · rw [if_neg (by simpa using h1)] at h
   by_cases h2:jA (Sk.out p 0 1) 3=0
   · rw [if_neg (by simpa using h2)] at h
     by_cases h3:jA (decide (g.kind≠Sk.aK)) 13=0
     · rw [if_neg (by simpa using h3)] at h
       by_cases h4:jA (decide (0≤s.ay)) 20=0
       · rw [SI (by decide)] at h2 h3 h4
         refine ⟨h1,?_,by simpa using h3,by simpa using h4⟩
         unfold Sk.out at h2
         simp at h2
         omega
       · rw [if_pos h4] at h;exact absurd h h4
     · rw [if_pos h3] at h;exact absurd h h3
   · rw [if_pos h2] at h;exact absurd h h2
 · rw [if_pos h1] at h;exact absurd h h1
theorem CX (s:Sk.State) (lack:Int) {p:Int} (h:Sk.score s (1 - p) - Sk.score s p - Sk.left s=lack):Sk.needed s p=max 0 ((lack+4 - 1).tdiv 4):=by subst h;rfl
theorem Ey (g:Sk.Game) (s:Sk.State) (p:Int) (w:World):Calls Tryz.prog 9 #[rF g,lJ s,.int .i64 p] w fun e w'=>e= .returned (.tuple #[.int .i64 (ndV g s p),.int .i64 (Tc g s p)])∧Below w.heap.size w w':=by
 go_enter Tryz.func9,Tryz.ntmps9
 go_upto_region 0 with (fail)
 go_cut [3,4,6,7] (fun v3 v4 v6 v7 wx=>v3=ptr w.heap.size∧v4=ptr (w.heap.size+1)∧v6= .int .i64 0∧v7= .int .i64 0∧aC w wx [(dN g,23),(aQ s,26)])
 case first=>
  go_wp2;go_meet;exact ⟨rfl,rfl,rfl,rfl,(((aC.nil w).new (by simp) (dN g) _).new (by simp) (aQ s) _)⟩
 case rest=>
  obtain ⟨rfl,rfl,rfl,rfl,hB⟩:=hcut;have hsz:=hB.size (by simp)
  simp only [List.length_cons,List.length_nil] at hsz
  have k0:=(hB.aj rfl).cell (j:=0) rfl;have k12:=(hB.get 1 rfl).cell (j:=12) rfl
  have hrG:∀ W:World,(fun w':World=>∀ p q,p<w.heap.size+2→w'.cell? ⟨p,q,none⟩=wc.cell? ⟨p,q,none⟩) W→W.rangeAt w.heap.size 0 (dN g):=fun W h j v hj=>by rw [h _ _ (by omega)];exact (hB.aj rfl).range j v hj
  have xX:∀ W:World,(fun w':World=>∀ p q,p<w.heap.size+2→w'.cell? ⟨p,q,none⟩=wc.cell? ⟨p,q,none⟩) W→W.rangeAt (w.heap.size+1) 0 (aQ s):=fun W h j v hj=>by rw [h _ _ (by omega)];exact (hB.get 1 rfl).range j v hj
  go_upto_region 1 with (fail)
  go_cut [8] (fun v8 wx=>v8= .int .i64 (Tc g s p)∧aC w wx [(dN g,23),(aQ s,26)])
  case first=>
   have hyk:(g.kind.toList == [115,110,111,111,107,101,114])=decide (g.kind=Sk.aK):=jB _ _;have HE:=hide (show Tc g s p=fst [Sk.bW g s,jA (Sk.out p 0 1) 3,jA (!decide (g.kind=Sk.aK)) 13,jA (decide (0≤s.ay)) 20] by unfold Tc;rw [← decide_not]);obtain ⟨yk,hk2⟩:∃ y,decide (g.kind=Sk.aK)=y:=⟨_,rfl⟩;obtain ⟨yw,UJ⟩:∃ y,decide (0≤s.ay)=y:=⟨_,rfl⟩;rw [hk2] at hyk HE;rw [UJ] at HE;clear hk2;refine wp_region_held_drew (S:=(fun w':World=>∀ p q,p<w.heap.size+2→w'.cell? ⟨p,q,none⟩=wc.cell? ⟨p,q,none⟩)) (by kernel_rfl) ?bU (fun hHeld=>?_)
   case bU=>exact fun p q h=>rfl
   refine bP 0 hrG Tryz.underlying23 ?_;refine bP 1 xX Tryz.underlying26 ?_;refine aA 3 ?_;refine aA 6 ?_;refine aA 7 ?_;refine aA 8 ?_;refine aA 10 ?_;refine aA 11 ?_;refine aA 12 ?_;refine aB 2 fun K hK=>?_;go_simp
   (go_at_call 24;refine (lG g s _).mono ?_;rintro e1 w1 ⟨rfl,hb1⟩;have hb8:Below wc.heap.size wc w1:=⟨hb1.os,hb1.tape,hb1.output,hb1.size,hb1.block⟩;have hB1:=hB.drew.call (by simp) hb1)
   refine au hK (fun p q h=>hb8.cell (p:=⟨p,q,none⟩) (Nat.lt_of_lt_of_le h hsz)) fun hHeld=>?_;clear hK K;refine aB 4 fun K hK=>?_;go_simp
   (go_at_call 30;refine (jG _ _ _ _).mono ?_;rintro e1 oh ⟨rfl,rfl⟩)
   refine au hK (by first | exact fun p q h=>hb8.cell (p:=⟨p,q,none⟩) (Nat.lt_of_lt_of_le h hsz) | exact fun p q h=>rfl) fun hHeld=>?_;clear hK K;refine aB 5 fun K hK=>?_;go_simp
   (go_at_call 25;refine (dJ _ _ _).mono ?_;rintro e1 oh ⟨rfl,rfl⟩)
   refine au hK (by first | exact fun p q h=>hb8.cell (p:=⟨p,q,none⟩) (Nat.lt_of_lt_of_le h hsz) | exact fun p q h=>rfl) fun hHeld=>?_;clear hK K;refine aB 9 fun K hK=>?_;go_simp
   (go_at_call 25;refine (dJ _ _ _).mono ?_;rintro e1 oh ⟨rfl,rfl⟩)
   refine au hK (by first | exact fun p q h=>hb8.cell (p:=⟨p,q,none⟩) (Nat.lt_of_lt_of_le h hsz) | exact fun p q h=>rfl) fun hHeld=>?_;clear hK K;refine aB 13 fun K hK=>?_;go_simp
   (go_at_call 25;refine (dJ _ _ _).mono ?_;rintro e1 oh ⟨rfl,rfl⟩)
   refine au hK (by first | exact fun p q h=>hb8.cell (p:=⟨p,q,none⟩) (Nat.lt_of_lt_of_le h hsz) | exact fun p q h=>rfl) fun hHeld=>?_;clear hK K;refine aB 14 fun K hK=>?_;go_simp;refine au hK (fun p q h=>(hb8.alloc hb8.size _).cell (p:=⟨p,q,none⟩) (Nat.lt_of_lt_of_le h hsz)) fun hHeld=>?_;clear hK K;refine aB 15 fun K hK=>?_;go_simp
   (go_at_call 23;refine (iO (fun _=>True) _ _ [Sk.bW g s,jA (Sk.out p 0 1) 3,jA (!yk) 13,jA yw 20] _ (kX.row _ _ [Sk.bW g s,jA (Sk.out p 0 1) 3,jA (!yk) 13,jA yw 20] (by simp) _ trivial)).mono ?_;rintro e1 oh ⟨rfl,rfl⟩)
   refine au hK (fun p q h=>(hb8.alloc hb8.size _).cell (p:=⟨p,q,none⟩) (Nat.lt_of_lt_of_le h hsz)) fun hHeld=>?_;clear hK K;refine aA 16 ?_;refine wpAnyH_done (by kernel_rfl) ?_ _;go_wp2;go_meet;exact ⟨by rw [HE.out],hB1.alloc (by simp) _⟩
  case rest=>
   obtain ⟨rfl,hB1⟩:=hcut;clear hB k0 k12 hrG xX
   by_cases hz:Tc g s p=0
   · have hz':(Tc g s p != 0)=false:=by simp [hz]
     obtain ⟨hck,hp,hgk,hwn⟩:=PL hz;obtain ⟨Uu,zS,_⟩:=Cc hck;have ho:=Sk.kL.1 hck;have hlr:=Sk.oO ho hgk;have h0:=ho.inr.s0;have h1:=ho.inr.s1;have hf:=hB1.get 1 rfl;have k1:=hf.cell (j:=1) rfl;have k2:=hf.cell (j:=2) rfl
     have xX:∀ W:World,(fun w':World=>∀ p q,p<w.heap.size+2→w'.cell? ⟨p,q,none⟩=wc.cell? ⟨p,q,none⟩) W→W.rangeAt (w.heap.size+1) 0 (aQ s):=fun W h j v hj=>by rw [h _ _ (by omega)];exact hf.range j v hj
     have HR:=hide (show ndV g s p=Sk.needed s p by unfold ndV;rw [if_pos hz]);have HZ:=hide hz;have hsz1:=hB1.size (by simp)
     simp only [List.length_cons,List.length_nil] at hsz1
     have hcut:=And.intro trivial hB1;clear hz hck hgk ho
     rcases hp with rfl | rfl
     · have WE:=hide (CX s (s.s1 - s.s0 - Sk.left s) (p:=0) (by unfold Sk.score;simp))
       obtain ⟨lf,hlf⟩:∃ x,Sk.left s=x:=⟨_,rfl⟩;rw [hlf] at hlr WE;have HLF:=hide hlf;clear hlf
       have YW:IntKind.i64.wrap (1 - 0)=1:=by decide
       have YA:IntKind.i64.wrap 1=1:=by decide
       have w1:IntKind.i64.wrap (s.s1 - s.s0)=s.s1 - s.s0:=by rw [IntKind.wrap_i64];omega
       have w2:IntKind.i64.wrap (s.s1 - s.s0 - lf)=s.s1 - s.s0 - lf:=by rw [IntKind.wrap_i64];omega
       go_upto_region 4 with (fail)
       go_cut [9] (fun v9 wx=>v9= .int .i64 (s.s1 - s.s0 - lf)∧aC w wx [(dN g,23),(aQ s,26)])
       case first=>
        have hsn:=rX s Uu zS;rw [HLF.out] at hsn;have HSN:=hide hsn;clear hsn;refine wp_region_held_drew (S:=(fun w':World=>∀ p q,p<w.heap.size+2→w'.cell? ⟨p,q,none⟩=wc.cell? ⟨p,q,none⟩)) (by kernel_rfl) ?cu (fun hHeld=>?_)
        case cu=>exact fun p q h=>rfl
        refine aA 0 ?_;refine aA 1 ?_;refine aA 2 ?_;refine aA 3 ?_;refine aA 4 ?_;refine aA 5 ?_;refine aA 6 ?_;refine aA 7 ?_;refine aA 8 ?_;refine aA 9 ?_;refine bP 10 xX Tryz.underlying26 ?_;refine aB 11 fun K hK=>?_;go_simp
        (go_at_call 26;refine (HSN.out _).mono ?_;rintro e1 w5 ⟨rfl,hb5⟩;have hb6:Below wc.heap.size wc w5:=⟨hb5.os,hb5.tape,hb5.output,hb5.size,hb5.block⟩;have jP:=hcut.2.drew.call (by simp) hb5)
        refine au hK (fun p q h=>hb6.cell (p:=⟨p,q,none⟩) (Nat.lt_of_lt_of_le h hsz1)) fun hHeld=>?_;clear hK K;refine aA 12 ?_;refine aA 13 ?_;refine wpAnyH_done (by kernel_rfl) ?_ _;go_wp2;go_meet;exact ⟨rfl,jP⟩
       case rest=>
        obtain ⟨rfl,hB2⟩:=hcut;obtain ⟨lk,hlk⟩:∃ x,s.s1 - s.s0 - lf=x:=⟨_,rfl⟩
        have hl1: -200000≤lk∧lk≤200000:=by omega
        rw [hlk] at WE ⊢
        have w3:IntKind.i64.wrap (lk+4)=lk+4:=by rw [IntKind.wrap_i64];omega
        have w4:IntKind.i64.wrap (lk+4 - 1)=lk+4 - 1:=by rw [IntKind.wrap_i64];omega
        have hq1: -60000≤(lk+4 - 1).tdiv 4∧(lk+4 - 1).tdiv 4≤60000:=by
         rcases Int.le_total 0 (lk+4 - 1) with h | h
         · rw [Int.tdiv_eq_ediv_of_nonneg h];omega
         · have h2:=Int.neg_tdiv (lk+4 - 1) 4
           rw [Int.tdiv_eq_ediv_of_nonneg (by omega)] at h2;omega
        have w5:IntKind.i64.wrap ((lk+4 - 1).tdiv 4)=(lk+4 - 1).tdiv 4:=by rw [IntKind.wrap_i64];omega
        clear hlk;go_wp2
        all_goals
         go_ret2
         exact ⟨by
          have h9:=WE.out
          (first | rw [HR.out,h9] | rw [h9])
          (try rw [HZ.out])
          first | rfl | (rw [show max (0:Int) ((lk+4 - 1).tdiv 4)=(lk+4 - 1).tdiv 4 by omega];rfl) | (rw [show max (0:Int) ((lk+4 - 1).tdiv 4)=0 by omega];rfl),hB2.bw⟩
     · have WE:=hide (CX s (s.s0 - s.s1 - Sk.left s) (p:=1) (by unfold Sk.score;simp))
       obtain ⟨lf,hlf⟩:∃ x,Sk.left s=x:=⟨_,rfl⟩;rw [hlf] at hlr WE;have HLF:=hide hlf;clear hlf
       have YW:IntKind.i64.wrap (1 - 1)=0:=by decide
       have YA:IntKind.i64.wrap 0=0:=by decide
       have w1:IntKind.i64.wrap (s.s0 - s.s1)=s.s0 - s.s1:=by rw [IntKind.wrap_i64];omega
       have w2:IntKind.i64.wrap (s.s0 - s.s1 - lf)=s.s0 - s.s1 - lf:=by rw [IntKind.wrap_i64];omega
       go_upto_region 4 with (fail)
       go_cut [9] (fun v9 wx=>v9= .int .i64 (s.s0 - s.s1 - lf)∧aC w wx [(dN g,23),(aQ s,26)])
       case first=>
        have hsn:=rX s Uu zS;rw [HLF.out] at hsn;have HSN:=hide hsn;clear hsn;refine wp_region_held_drew (S:=(fun w':World=>∀ p q,p<w.heap.size+2→w'.cell? ⟨p,q,none⟩=wc.cell? ⟨p,q,none⟩)) (by kernel_rfl) ?dF (fun hHeld=>?_)
        case dF=>exact fun p q h=>rfl
        refine aA 0 ?_;refine aA 1 ?_;refine aA 2 ?_;refine aA 3 ?_;refine aA 4 ?_;refine aA 5 ?_;refine aA 6 ?_;refine aA 7 ?_;refine aA 8 ?_;refine aA 9 ?_;refine bP 10 xX Tryz.underlying26 ?_;refine aB 11 fun K hK=>?_;go_simp
        (go_at_call 26;refine (HSN.out _).mono ?_;rintro e1 w5 ⟨rfl,hb5⟩;have hb6:Below wc.heap.size wc w5:=⟨hb5.os,hb5.tape,hb5.output,hb5.size,hb5.block⟩;have jP:=hcut.2.drew.call (by simp) hb5)
        refine au hK (fun p q h=>hb6.cell (p:=⟨p,q,none⟩) (Nat.lt_of_lt_of_le h hsz1)) fun hHeld=>?_;clear hK K;refine aA 12 ?_;refine aA 13 ?_;refine wpAnyH_done (by kernel_rfl) ?_ _;go_wp2;go_meet;exact ⟨rfl,jP⟩
       case rest=>
        obtain ⟨rfl,hB2⟩:=hcut;obtain ⟨lk,hlk⟩:∃ x,s.s0 - s.s1 - lf=x:=⟨_,rfl⟩
        have hl1: -200000≤lk∧lk≤200000:=by omega
        rw [hlk] at WE ⊢
        have w3:IntKind.i64.wrap (lk+4)=lk+4:=by rw [IntKind.wrap_i64];omega
        have w4:IntKind.i64.wrap (lk+4 - 1)=lk+4 - 1:=by rw [IntKind.wrap_i64];omega
        have hq1: -60000≤(lk+4 - 1).tdiv 4∧(lk+4 - 1).tdiv 4≤60000:=by
         rcases Int.le_total 0 (lk+4 - 1) with h | h
         · rw [Int.tdiv_eq_ediv_of_nonneg h];omega
         · have h2:=Int.neg_tdiv (lk+4 - 1) 4
           rw [Int.tdiv_eq_ediv_of_nonneg (by omega)] at h2;omega
        have w5:IntKind.i64.wrap ((lk+4 - 1).tdiv 4)=(lk+4 - 1).tdiv 4:=by rw [IntKind.wrap_i64];omega
        clear hlk;go_wp2
        all_goals
         go_ret2
         exact ⟨by
          have h9:=WE.out
          (first | rw [HR.out,h9] | rw [h9])
          (try rw [HZ.out])
          first | rfl | (rw [show max (0:Int) ((lk+4 - 1).tdiv 4)=(lk+4 - 1).tdiv 4 by omega];rfl) | (rw [show max (0:Int) ((lk+4 - 1).tdiv 4)=0 by omega];rfl),hB2.bw⟩
   · have hz':(Tc g s p != 0)=true:=by simp [hz]
     have HR:=hide (show ndV g s p=0 by unfold ndV;rw [if_neg hz]);clear hz;go_wp2;go_ret2;exact ⟨by first | (rw [HR.out];rfl) | rfl,hB1.bw⟩
end Go.Proofs.YtcbmedfongiojaaGreatDoor
