/- Parts of a proof. -/
import Derived.Test.YtjbbfmofpjflmaaGreatDoorKb25
import Derived.Test.YtjbbfmofpjflmaaGreatDoorKb28
set_option maxHeartbeats 1600000
set_option maxRecDepth 100000
set_option linter.unusedVariables false
set_option linter.unusedSimpArgs false
namespace Go.Proofs.YtjbbfmofpjflmaaGreatDoor
open Go.RowKit
def nY (s:Sk.State):List UInt8:=Lib.itoa s.s0++58::Lib.itoa s.s1
def Jj (g:Sk.Game) (s:Sk.State):List UInt8:=
 nY s++(if s.aB=2 then [32,100,114,97,119,110]
  else if 0≤s.aB then [32,119,111,110,32]++Lib.itoa s.aB
  else if g.kind≠Sk.aW then [32,116,117,114,110,32]++Lib.itoa s.turn
  else if s.phase=Sk.dG then [32,102,105,110,97,108,32]++Lib.itoa s.colour
  else 32::s.phase.toList++32::Lib.itoa s.bI)
def Pn (g:Sk.Game) (s:Sk.State):List UInt8:=if Sk.bP g s=0 then Jj g s else []
theorem XA {s:Sk.State} (h0:0≤s.s0∧s.s0≤99999) (h1:0≤s.s1∧s.s1≤99999):(nY s).length≤23:=by
 unfold nY
 have:=ny (n:=s.s0) (by omega) (by omega)
 have:=ny (n:=s.s1) (by omega) (by omega)
 simp;omega
theorem uV (n:Int) (h0: -1000000000≤n) (h1:n≤1000000000) (W:World) (h:Glob W):Calls Tryz.prog 77 #[.int .i64 n] W fun e w'=>e= .returned (.string ⟨(Lib.itoa n).toArray⟩)∧Below W.heap.size W w':=
 (Tryz.strconv_Itoa n (by omega) (by omega) W h.tab).mono (fun _ _ ⟨h1,h2⟩=>⟨h1,Aa h2⟩)
theorem sD (g:Sk.Game) (s:Sk.State) (w:World) (hG0:Glob w):
 Calls Tryz.prog 39 #[lZ g,kW s] w fun e w'=>e= .returned (.tuple #[.string ⟨(Pn g s).toArray⟩,.int .i64 (Sk.bP g s)])∧Below w.heap.size w w':=by
 go_enter Tryz.func39,Tryz.ntmps39
 go_upto_region 0 with (fail)
 go_cut [2,3] (fun v2 v3 wx=>v2=ptr w.heap.size∧v3=ptr (w.heap.size+1)∧aJ w wx [(bT g,23),(aO s,26)])
 case first=>
  go_wp2;go_meet;exact ⟨rfl,rfl,(((aJ.nil w).new (by simp) (bT g) _).new (by simp) (aO s) _)⟩
 case rest=>
  obtain ⟨rfl,rfl,hB⟩:=hcut
  by_cases h0:Sk.bP g s=0
  rotate_left
  · have h0':(Sk.bP g s != 0)=true:=by simp [h0]
    have HM:=hide (show Pn g s=[] by unfold Pn;rw [if_neg h0]);clear h0
    go_wp2_with (first | ((with_reducible (refine ah 23 (.tmp 2) ?lx ?_));(case lx=>rfl);refine au (hB.aA rfl) Tryz.underlying23 rfl cZ rfl (.tmp 2) rfl rfl ?_) | ((with_reducible (refine ah 26 (.tmp 3) ?lx ?_));(case lx=>rfl);refine au (hB.get 1 rfl) Tryz.underlying26 rfl ak rfl (.tmp 3) rfl rfl ?_) | (go_at_call 18;refine (jl g s _).mono ?_;rintro e1 w1 ⟨rfl,hb1⟩;have hB1:=hB.call (by simp) hb1))
    go_ret2;exact ⟨by rw [HM.out];rfl,hB1.bw⟩
  · have h0':(Sk.bP g s != 0)=false:=by simp [h0]
    obtain ⟨OL,I9,htu⟩:=xQ h0;have ho:=(Sk.kG.1 h0).inr;have hs0:=ho.s0;have hs1:=ho.s1;have hwi:=ho.aB;have HZ:=hide h0;have HT:=hide (show Pn g s=Jj g s by unfold Pn;rw [if_pos h0]);have HOK:=hide (Sk.kG.1 h0);clear h0 ho
    go_upto_region 4 with (first | ((with_reducible (refine ah 23 (.tmp 2) ?lx ?_));(case lx=>rfl);refine au (hB.aA rfl) Tryz.underlying23 rfl cZ rfl (.tmp 2) rfl rfl ?_) | ((with_reducible (refine ah 26 (.tmp 3) ?lx ?_));(case lx=>rfl);refine au (hB.get 1 rfl) Tryz.underlying26 rfl ak rfl (.tmp 3) rfl rfl ?_) | (go_at_call 18;refine (jl g s _).mono ?_;rintro e1 w1 ⟨rfl,hb1⟩;have hB1:=hB.call (by simp) hb1))
    have hG1:=hG0.below hB1.bw;have H0:=hide (uV s.s0 (by omega) (by omega));have H1:=hide (uV s.s1 (by omega) (by omega));have l0:=ny (n:=s.s0) (by omega) (by omega);have l1:=ny (n:=s.s1) (by omega) (by omega);have la2:=XA hs0 hs1;clear hB h0'
    go_cut [7] from 14 to 24 (fun v7 wx=>v7= .string ⟨(nY s).toArray⟩∧aJ w wx [(bT g,23),(aO s,26)])
    case first=>
     have hsz:=hB1.size (by simp)
     simp only [List.length_cons,List.length_nil] at hsz
     have hG:=hG1;have ks0:=(hB1.get 1 rfl).cell (j:=1) rfl;have ks1:=(hB1.get 1 rfl).cell (j:=2) rfl
     have z0:(ByteArray.mk (Lib.itoa s.s0).toArray).size≤11:=by rw [jC];exact l0
     have y0:¬ (9223372036854775807<(Lib.itoa s.s0).length+1):=by omega
     have y1:¬ (9223372036854775807<(Lib.itoa s.s0).length+1+(Lib.itoa s.s1).length):=by omega
     have z1:(ByteArray.mk (Lib.itoa s.s1).toArray).size≤11:=by rw [jC];exact l1
     refine wp_region_held_drew (S:=(fun w':World=>(∀ p q,p<w.heap.size+2→w'.cell? ⟨p,q,none⟩=w1.cell? ⟨p,q,none⟩)∧Below w1.heap.size w1 w')) (by kernel_rfl) ?bW (fun hHeld=>?_)
     case bW=>exact ⟨fun _ _ _=>rfl,(Below.refl _ _).drew⟩
     refine aF 0 ?_;refine aF 1 ?_;refine aF 2 ?_;refine aF 5 ?_;refine aF 6 ?_;refine aF 7 ?_;refine aG 3 fun K hK=>?_;go_simp
     (go_at_call 77;refine (H0.out _ (hG.below hHeld.2)).mono ?_;rintro e5 w5 ⟨rfl,hb5⟩)
     refine ay hK (⟨fun p q h=>(hb5.cell (p:=⟨p,q,none⟩) (Nat.lt_of_lt_of_le (Nat.lt_of_lt_of_le h hsz) hHeld.2.size)).trans (hHeld.1 p q h),hHeld.2.trans (hb5.mono hHeld.2.size)⟩) fun hHeld=>?_;clear hK K;refine aF 4 ?_;refine aG 8 fun K hK=>?_;go_simp
     (go_at_call 77;refine (H1.out _ (hG.below hHeld.2)).mono ?_;rintro e6 w6 ⟨rfl,hb6⟩)
     refine ay hK (⟨fun p q h=>(hb6.cell (p:=⟨p,q,none⟩) (Nat.lt_of_lt_of_le (Nat.lt_of_lt_of_le h hsz) hHeld.2.size)).trans (hHeld.1 p q h),hHeld.2.trans (hb6.mono hHeld.2.size)⟩) fun hHeld=>?_;clear hK K;refine aF 9 ?_;refine aF 10 ?_;refine wpAnyH_done (by kernel_rfl) ?_ _;go_wp2;go_meet;exact ⟨congrArg Value.string (by simp only [sV];simp [nY]),hB1.call (by simp) hHeld.2⟩
    case rest=>
     obtain ⟨rfl,hB3⟩:=hcut;have hG3:=hG0.below hB3.bw;have hF:=hB3.get 1 rfl
     have zA:(ByteArray.mk (nY s).toArray).size≤23:=by rw [jC];exact la2
     have kg:=(hB3.aA rfl).cell (j:=0) rfl;have k12:=hF.cell (j:=12) rfl;have k4:=hF.cell (j:=4) rfl
     have y1:¬ (9223372036854775807<(nY s).length+6):=by omega
     have y2:¬ (9223372036854775807<(nY s).length+5):=by omega
     have y3:¬ (9223372036854775807<(nY s).length+7):=by omega
     have y4:¬ (9223372036854775807<(nY s).length+1):=by omega
     clear hB1 hG1 l0 l1 H0 H1
     by_cases h1:s.aB=2
     · have Oj:=(show (s.aB == 2)=true by simp [h1])
       have YZ:=(show (s.aB != 2)=false by simp [h1]);have HM:=hide (show Jj g s=nY s++([32,100,114,97,119,110]) by unfold Jj;simp only [h1,if_true,if_false,reduceIte,ne_eq,not_true_eq_false,not_false_eq_true];try rfl);clear h1;go_wp2;go_ret2;exact ⟨by rw [HT.out,HM.out,HZ.out];simp only [sV];rfl,hB3.bw⟩
     · have Oi:=(show (s.aB == 2)=false by simp [h1])
       have YX:=(show (s.aB != 2)=true by simp [h1])
       by_cases h2:0≤s.aB
       · have Om:=(show decide (0≤s.aB)=true from decide_eq_true h2)
         have HM:=hide (show Jj g s=nY s++([32,119,111,110,32]++Lib.itoa s.aB) by unfold Jj;simp only [h1,h2,if_true,if_false,reduceIte,ne_eq,not_true_eq_false,not_false_eq_true];try rfl);clear h1 h2;have hk:=hF.cell (j:=12) rfl;have HI:=hide (uV s.aB (by omega) (by omega));have l2:=ny (n:=s.aB) (by omega) (by omega)
         have z2:(ByteArray.mk (Lib.itoa s.aB).toArray).size≤11:=by rw [jC];exact l2
         have u1:¬ (9223372036854775807<(nY s).length+6+(Lib.itoa s.aB).length):=by omega
         have u2:¬ (9223372036854775807<(nY s).length+5+(Lib.itoa s.aB).length):=by omega
         have u3:¬ (9223372036854775807<(nY s).length+7+(Lib.itoa s.aB).length):=by omega
         go_wp2_with (go_at_call 77;refine (HI.out _ hG3).mono ?_;rintro e w4 ⟨rfl,hb4⟩;have hB4:=hB3.call (by simp) hb4)
         go_ret2;exact ⟨by rw [HT.out,HM.out,HZ.out];simp only [sV,List.append_assoc];rfl,hB4.bw⟩
       · have Ol:=(show decide (0≤s.aB)=false from decide_eq_false h2)
         by_cases h3:g.kind=Sk.aW
         · have Lh:=wt h3
           have agy:=(show (g.kind.toList != [115,110,111,111,107,101,114])=false by rw [bne,wt h3];rfl)
           by_cases h4:s.phase=Sk.dG
           · have Ll:=wt h4
             have HM:=hide (show Jj g s=nY s++([32,102,105,110,97,108,32]++Lib.itoa s.colour) by unfold Jj;simp only [h1,h2,h3,h4,if_true,if_false,reduceIte,ne_eq,not_true_eq_false,not_false_eq_true];try rfl);clear h1 h2 h3 h4;have hk:=hF.cell (j:=6) rfl;have HI:=hide (uV s.colour (by omega) (by omega));have l2:=ny (n:=s.colour) (by omega) (by omega)
             have z2:(ByteArray.mk (Lib.itoa s.colour).toArray).size≤11:=by rw [jC];exact l2
             have u1:¬ (9223372036854775807<(nY s).length+6+(Lib.itoa s.colour).length):=by omega
             have u2:¬ (9223372036854775807<(nY s).length+5+(Lib.itoa s.colour).length):=by omega
             have u3:¬ (9223372036854775807<(nY s).length+7+(Lib.itoa s.colour).length):=by omega
             go_wp2_with (go_at_call 77;refine (HI.out _ hG3).mono ?_;rintro e w4 ⟨rfl,hb4⟩;have hB4:=hB3.call (by simp) hb4)
             go_ret2;exact ⟨by rw [HT.out,HM.out,HZ.out];simp only [sV,List.append_assoc];rfl,hB4.bw⟩
           · have Lj:=wf h4
             have HM:=hide (show Jj g s=nY s++(32::s.phase.toList++32::Lib.itoa s.bI) by unfold Jj;simp only [h1,h2,h3,h4,if_true,if_false,reduceIte,ne_eq,not_true_eq_false,not_false_eq_true];try rfl)
             have hps:s.phase.size≤6:=by rcases Sk.Gm HOK.out h3 with ⟨h,_⟩ | ⟨h,_⟩ | ⟨h,_⟩ <;> rw [h] <;> decide
             clear h1 h2 h3 h4;have hk:=hF.cell (j:=5) rfl;have HI:=hide (uV s.bI (by omega) (by omega));have l2:=ny (n:=s.bI) (by omega) (by omega)
             have z2:(ByteArray.mk (Lib.itoa s.bI).toArray).size≤11:=by rw [jC];exact l2
             have u1:¬ (9223372036854775807<(nY s).length+6+(Lib.itoa s.bI).length):=by omega
             have u2:¬ (9223372036854775807<(nY s).length+5+(Lib.itoa s.bI).length):=by omega
             have u3:¬ (9223372036854775807<(nY s).length+7+(Lib.itoa s.bI).length):=by omega
             have v1:¬ (9223372036854775807<(nY s).length+1+s.phase.size):=by omega
             have v2:¬ (9223372036854775807<(nY s).length+1+s.phase.size+1):=by omega
             have v3:¬ (9223372036854775807<(nY s).length+1+s.phase.size+1+(Lib.itoa s.bI).length):=by omega
             have hsz:=hB3.size (by simp)
             simp only [List.length_cons,List.length_nil] at hsz
             have hG:=hG3
             go_upto_region 13 with (fail)
             refine wp_region_held_drew (S:=(fun w':World=>(∀ p q,p<w.heap.size+2→w'.cell? ⟨p,q,none⟩=wc.cell? ⟨p,q,none⟩)∧Below wc.heap.size wc w')) (by kernel_rfl) ?dI (fun hHeld=>?_)
             case dI=>exact ⟨fun _ _ _=>rfl,(Below.refl _ _).drew⟩
             refine aF 0 ?_;refine aF 1 ?_;refine aF 2 ?_;refine aF 3 ?_;refine aF 4 ?_;refine aF 5 ?_;refine aF 6 ?_;refine aF 7 ?_;refine aG 8 fun K hK=>?_;go_simp
             (go_at_call 77;refine (HI.out _ (hG.below hHeld.2)).mono ?_;rintro e5 w5 ⟨rfl,hb5⟩)
             refine ay hK (⟨fun p q h=>(hb5.cell (p:=⟨p,q,none⟩) (Nat.lt_of_lt_of_le (Nat.lt_of_lt_of_le h hsz) hHeld.2.size)).trans (hHeld.1 p q h),hHeld.2.trans (hb5.mono hHeld.2.size)⟩) fun hHeld=>?_;clear hK K;refine aF 9 ?_;refine aF 10 ?_;refine aF 11 ?_;refine wpAnyH_done (by kernel_rfl) ?_ _;have hB4:=hB3.call (by simp) hHeld.2;go_wp2;go_ret2;obtain ⟨pl,hpl⟩:∃ pl,s.phase.toList=pl:=⟨_,rfl⟩;have hpe:s.phase=⟨pl.toArray⟩:=qH (by rw [hpl,ByteArray.toList_eq]);exact ⟨by rw [HT.out,HM.out,HZ.out,hpl,hpe];simp only [sV,List.append_assoc,List.cons_append,List.nil_append];rfl,hB4.bw⟩
         · have Le:=wf h3
           have agr:=(show (g.kind.toList != [115,110,111,111,107,101,114])=true by rw [bne,wf h3];rfl);have HM:=hide (show Jj g s=nY s++([32,116,117,114,110,32]++Lib.itoa s.turn) by unfold Jj;simp only [h1,h2,h3,if_true,if_false,reduceIte,ne_eq,not_true_eq_false,not_false_eq_true];try rfl);clear h1 h2 h3;have hk:=hF.cell (j:=0) rfl;have HI:=hide (uV s.turn (by omega) (by omega));have l2:=ny (n:=s.turn) (by omega) (by omega)
           have z2:(ByteArray.mk (Lib.itoa s.turn).toArray).size≤11:=by rw [jC];exact l2
           have u1:¬ (9223372036854775807<(nY s).length+6+(Lib.itoa s.turn).length):=by omega
           have u2:¬ (9223372036854775807<(nY s).length+5+(Lib.itoa s.turn).length):=by omega
           have u3:¬ (9223372036854775807<(nY s).length+7+(Lib.itoa s.turn).length):=by omega
           go_wp2_with (go_at_call 77;refine (HI.out _ hG3).mono ?_;rintro e w4 ⟨rfl,hb4⟩;have hB4:=hB3.call (by simp) hb4)
           go_ret2;exact ⟨by rw [HT.out,HM.out,HZ.out];simp only [sV,List.append_assoc];rfl,hB4.bw⟩
end Go.Proofs.YtjbbfmofpjflmaaGreatDoor
