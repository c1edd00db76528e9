/- Parts of a proof. -/
import Derived.Test.YtjbbfmofpjflmaaGreatDoorKq2
import Derived.Test.YtjbbfmofpjflmaaGreatDoorKr19
set_option maxHeartbeats 8000000
set_option maxRecDepth 100000
set_option linter.unusedVariables false
set_option linter.unusedSimpArgs false
namespace Go.Proofs.YtjbbfmofpjflmaaGreatDoor
open Go.RowKit
def fxA (g:Sk.Game) (s:Sk.State):Bool:=(decide (Sk.score s s.turn<s.brk) || (s.ay == 2 && !(g.kind.toList == [99,97,114,111,109])) || (decide (0<s.aO) && !(g.kind.toList == [98,105,108,108,105,97,114,100,115])))
def fxR (g:Sk.Game) (s:Sk.State):Bool:=(decide (0<g.target) && decide (g.target≤max s.s0 s.s1))
def fxF (s:Sk.State):Bool:=(s.free && s.aN) || ((s.free || s.aN) && ((s.phase.toList == [99,111,108,111,117,114]) || decide (0≤s.ay)))
theorem aiJ (g:Sk.Game) (s:Sk.State):Sk.aat g s=if fxA g s then false else if Sk.aad s then false else if fxF s then false else if (g.kind.toList == [98,105,108,108,105,97,114,100,115]) && fxR g s && decide (s.ay<0) then false else if !(g.kind.toList == [99,97,114,111,109]) then true
 else if decide (0≤s.ay) then (s.t0 == s.t1) || (s.turn == 1 && (s.t0 == s.t1+1)) else if s.turn == 1 then (s.t0 == s.t1+1) else (s.t0 == s.t1) && !fxR g s && decide (s.t0<g.turns):=by
 have e1:=fB g.kind [99,97,114,111,109];have e2:=fB g.kind [98,105,108,108,105,97,114,100,115];have e3:=fB s.phase [99,111,108,111,117,114]
 have hA:fxA g s=decide (Sk.score s s.turn<s.brk∨(s.ay=2∧g.kind≠Sk.fC)∨(0<s.aO∧g.kind≠Sk.bT)):=by
  unfold fxA
  rw [e1,e2,Bool.eq_iff_iff]
  simp [or_assoc]
 have hF:fxF s=Sk.eu s:=by
  unfold fxF Sk.eu
  rw [e3,Bool.eq_iff_iff]
  simp
 have hR:fxR g s=Sk.aal g s:=by
  unfold fxR Sk.aal
  rw [Bool.eq_iff_iff]
  simp
 rw [hA,hF,hR,e1,e2]
 unfold Sk.aat
 by_cases h1:Sk.score s s.turn<s.brk∨(s.ay=2∧g.kind≠Sk.fC)∨(0<s.aO∧g.kind≠Sk.bT)
 · rw [if_pos h1,if_pos (decide_eq_true h1)]
 rw [if_neg h1,decide_eq_false h1];clear h1 hA hF hR e1 e2 e3
 simp only [Bool.false_eq_true,if_false]
 by_cases h3:s.ay<0
 · have h3':¬ (0≤s.ay):=by omega
   have e3:decide (s.ay<0)=true:=decide_eq_true h3;have e4:decide (0≤s.ay)=false:=decide_eq_false h3';have e6:(s.t0 == s.t1)=decide (s.t0=s.t1):=rfl;have e7:(s.t0 == s.t1+1)=decide (s.t0=s.t1+1):=rfl;rw [e3,e4,e6,e7]
   simp only [h3,h3',if_false]
   cases Sk.aad s <;> cases Sk.eu s <;> cases Sk.aal g s <;> by_cases h2:g.kind=Sk.bT <;> by_cases h4:g.kind=Sk.fC <;> by_cases h5:s.turn=1 <;> by_cases h6:s.t0=s.t1 <;> by_cases h7:s.t0=s.t1+1 <;> first | exact absurd (h2.symm.trans h4) (by decide) | (simp [h2,h4,h5,h6,h7];done) | (simp [h2,h4,h5,h6,h7];omega)
 · have h3':0≤s.ay:=by omega
   have e3:decide (s.ay<0)=false:=decide_eq_false h3;have e4:decide (0≤s.ay)=true:=decide_eq_true h3';have e6:(s.t0 == s.t1)=decide (s.t0=s.t1):=rfl;have e7:(s.t0 == s.t1+1)=decide (s.t0=s.t1+1):=rfl;rw [e3,e4,e6,e7]
   simp only [h3,h3',if_true]
   cases Sk.aad s <;> cases Sk.eu s <;> cases Sk.aal g s <;> by_cases h2:g.kind=Sk.bT <;> by_cases h4:g.kind=Sk.fC <;> by_cases h5:s.turn=1 <;> by_cases h6:s.t0=s.t1 <;> by_cases h7:s.t0=s.t1+1 <;> first | exact absurd (h2.symm.trans h4) (by decide) | (simp [h2,h4,h5,h6,h7];done) | (simp [h2,h4,h5,h6,h7];omega)
theorem afa (g:Sk.Game) (s:Sk.State) (ht:s.turn=0∨s.turn=1) (hb:(0≤s.t0∧s.t0≤100)∧0≤s.t1∧s.t1≤100) (w:World):Calls Tryz.prog 71 #[lX g,jE s] w fun e w'=>e= .returned (.bool (Sk.aat g s))∧Below w.heap.size w w':=by
 have HF:=hide (aiJ g s)
 go_enter Tryz.func71,Tryz.ntmps71
 go_upto_region 0 with (fail)
 go_cut [2,3,4] (fun v2 v3 v4 wx=>v2=ptr (w.heap.size)∧v3=ptr (w.heap.size+1)∧v4= .bool false∧Bx w wx [(w.heap.size,bK g,28),(w.heap.size+1,aC s,39)])
 case first=>
  go_wp2;go_meet;exact ⟨rfl,rfl,rfl,Bx.of (((aG.nil w).new (by simp) (bK g) 28).new (by simp) (aC s) 39) _ rfl⟩
 case rest=>
  obtain ⟨rfl,rfl,rfl,hL⟩:=hcut
  go_upto_region 1 with (fail)
  go_cut [34] from 7 to 35 (fun v34 wx=>v34= .bool (fxA g s)∧Bx w wx [(w.heap.size,bK g,28),(w.heap.size+1,aC s,39)])
  case first=>
   have ai0:=(hL.get 0 rfl).cell (j:=0) rfl;have aeL:=(hL.get 1 rfl).cell (j:=0) rfl;have ax5:=(hL.get 1 rfl).cell (j:=1) rfl;have ayc:=(hL.get 1 rfl).cell (j:=2) rfl;have ayj:=(hL.get 1 rfl).cell (j:=3) rfl;have al7:=(hL.get 1 rfl).cell (j:=9) rfl;have acG:=(hL.get 1 rfl).cell (j:=12) rfl
   rcases ht with htu | htu
   · have hsc:Sk.score s s.turn=s.s0:=by rw [htu];rfl
     rw [htu] at aeL;have HSC:=hide (show fxA g s=(decide (s.s0<s.brk) || (s.ay == 2 && !(g.kind.toList == [99,97,114,111,109])) || (decide (0<s.aO) && !(g.kind.toList == [98,105,108,108,105,97,114,100,115]))) by unfold fxA;rw [hsc]);clear hsc htu
     rcases ha0:(decide (s.s0<s.brk)) with _ | _
     · rcases ha1:(s.ay == 2) with _ | _
       · rcases ha2:(decide (0<s.aO)) with _ | _
         · go_wp2
           go_quiet (fail)
           go_wp2;go_meet;exact ⟨congrArg Value.bool (by rw [HSC.out];simp [ha0,ha1,ha2]),hL.drewN nq⟩
         · rcases wo:((g.kind.toList == [98,105,108,108,105,97,114,100,115])) with _ | _
           · go_wp2
             go_quiet (fail)
             go_wp2;go_meet;exact ⟨congrArg Value.bool (by rw [HSC.out];simp [ha0,ha1,ha2,wo]),hL.drewN nq⟩
           · go_wp2
             go_quiet (fail)
             go_wp2;go_meet;exact ⟨congrArg Value.bool (by rw [HSC.out];simp [ha0,ha1,ha2,wo]),hL.drewN nq⟩
       · rcases ha2:((g.kind.toList == [99,97,114,111,109])) with _ | _
         · go_wp2
           go_quiet (fail)
           go_wp2;go_meet;exact ⟨congrArg Value.bool (by rw [HSC.out];simp [ha0,ha1,ha2]),hL.drewN nq⟩
         · rcases wo:(decide (0<s.aO)) with _ | _
           · go_wp2
             go_quiet (fail)
             go_wp2;go_meet;exact ⟨congrArg Value.bool (by rw [HSC.out];simp [ha0,ha1,ha2,wo]),hL.drewN nq⟩
           · rcases IU:((g.kind.toList == [98,105,108,108,105,97,114,100,115])) with _ | _
             · go_wp2
               go_quiet (fail)
               go_wp2;go_meet;exact ⟨congrArg Value.bool (by rw [HSC.out];simp [ha0,ha1,ha2,wo,IU]),hL.drewN nq⟩
             · go_wp2
               go_quiet (fail)
               go_wp2;go_meet;exact ⟨congrArg Value.bool (by rw [HSC.out];simp [ha0,ha1,ha2,wo,IU]),hL.drewN nq⟩
     · go_wp2
       go_quiet (fail)
       go_wp2;go_meet;exact ⟨congrArg Value.bool (by rw [HSC.out];simp [ha0]),hL.drewN nq⟩
   · have hsc:Sk.score s s.turn=s.s1:=by rw [htu];rfl
     rw [htu] at aeL;have HSC:=hide (show fxA g s=(decide (s.s1<s.brk) || (s.ay == 2 && !(g.kind.toList == [99,97,114,111,109])) || (decide (0<s.aO) && !(g.kind.toList == [98,105,108,108,105,97,114,100,115]))) by unfold fxA;rw [hsc]);clear hsc htu
     rcases ha0:(decide (s.s1<s.brk)) with _ | _
     · rcases ha1:(s.ay == 2) with _ | _
       · rcases ha2:(decide (0<s.aO)) with _ | _
         · go_wp2
           go_quiet (fail)
           go_wp2;go_meet;exact ⟨congrArg Value.bool (by rw [HSC.out];simp [ha0,ha1,ha2]),hL.drewN nq⟩
         · rcases wo:((g.kind.toList == [98,105,108,108,105,97,114,100,115])) with _ | _
           · go_wp2
             go_quiet (fail)
             go_wp2;go_meet;exact ⟨congrArg Value.bool (by rw [HSC.out];simp [ha0,ha1,ha2,wo]),hL.drewN nq⟩
           · go_wp2
             go_quiet (fail)
             go_wp2;go_meet;exact ⟨congrArg Value.bool (by rw [HSC.out];simp [ha0,ha1,ha2,wo]),hL.drewN nq⟩
       · rcases ha2:((g.kind.toList == [99,97,114,111,109])) with _ | _
         · go_wp2
           go_quiet (fail)
           go_wp2;go_meet;exact ⟨congrArg Value.bool (by rw [HSC.out];simp [ha0,ha1,ha2]),hL.drewN nq⟩
         · rcases wo:(decide (0<s.aO)) with _ | _
           · go_wp2
             go_quiet (fail)
             go_wp2;go_meet;exact ⟨congrArg Value.bool (by rw [HSC.out];simp [ha0,ha1,ha2,wo]),hL.drewN nq⟩
           · rcases IU:((g.kind.toList == [98,105,108,108,105,97,114,100,115])) with _ | _
             · go_wp2
               go_quiet (fail)
               go_wp2;go_meet;exact ⟨congrArg Value.bool (by rw [HSC.out];simp [ha0,ha1,ha2,wo,IU]),hL.drewN nq⟩
             · go_wp2
               go_quiet (fail)
               go_wp2;go_meet;exact ⟨congrArg Value.bool (by rw [HSC.out];simp [ha0,ha1,ha2,wo,IU]),hL.drewN nq⟩
     · go_wp2
       go_quiet (fail)
       go_wp2;go_meet;exact ⟨congrArg Value.bool (by rw [HSC.out];simp [ha0]),hL.drewN nq⟩
  case rest=>
   obtain ⟨rfl,hL⟩:=hcut
   rcases hA:fxA g s with _ | _
   rotate_left
   · have HR:=hide (show Sk.aat g s=false by rw [HF.out,if_pos hA])
     clear hA;go_wp2;go_ret;exact ⟨aH HR.out.symm,hL.bw⟩
   · have HA:=hide hA
     clear hA;have ayq:=(hL.get 1 rfl).cell (j:=4) rfl
     go_upto_block 0 with (fail)
     go_cut [] from 36 to 73 (fun wx=>Sk.aad s=false∧Bx w wx [(w.heap.size,bK g,28),(w.heap.size+1,aC s,39)])
     case first=>
      have alB:=(hL.get 1 rfl).cell (j:=5) rfl;have alJ:=(hL.get 1 rfl).cell (j:=6) rfl;have alR:=(hL.get 1 rfl).cell (j:=7) rfl;have alZ:=(hL.get 1 rfl).cell (j:=8) rfl;have e1:=fB s.phase [114,101,100];have e2:=fB s.phase [99,111,108,111,117,114];have e3:=fB s.phase [102,105,110,97,108]
      have HP:=hide (show Sk.aad s=if (s.phase.toList == [114,101,100]) then (s.colour != 0) || (s.aY == 0) else if (s.phase.toList == [99,111,108,111,117,114]) then s.colour != 0 else if (s.phase.toList == [102,105,110,97,108]) then decide (s.colour<2) || decide (0<s.aY) else (s.colour != 0) || s.free || s.aN by
       rw [e1,e2,e3]
       unfold Sk.aad
       by_cases h1:s.phase=Sk.fM <;> by_cases h2:s.phase=Sk.dA <;> by_cases h3:s.phase=Sk.bH <;> simp [h1,h2,h3,or_assoc] <;> (try rw [Bool.eq_iff_iff]) <;> simp [or_assoc])
      clear e1 e2 e3;obtain ⟨fr,hfr⟩:∃ q,s.free=q:=⟨_,rfl⟩;obtain ⟨fo,hfo⟩:∃ q,s.aN=q:=⟨_,rfl⟩;rw [hfr] at alR HP;rw [hfo] at alZ HP;clear hfr hfo
      rcases hp0:((s.phase.toList == [114,101,100])) with _ | _
      · rcases hp1:((s.phase.toList == [99,111,108,111,117,114])) with _ | _
        · rcases hp2:((s.phase.toList == [102,105,110,97,108])) with _ | _
          · rcases hp3:(s.colour != 0) with _ | _
            · rcases Zp:(fr) with _ | _
              · rcases hp5:(fo) with _ | _
                · go_wp2
                  go_meet;exact ⟨by rw [HP.out];simp [hp0,hp1,hp2,hp3,Zp,hp5],hL⟩
                · go_wp2
                  go_ret;exact ⟨aH (by rw [HF.out,HP.out];simp [HA.out,hp0,hp1,hp2,hp3,Zp,hp5]),hL.bw⟩
              · go_wp2
                go_ret;exact ⟨aH (by rw [HF.out,HP.out];simp [HA.out,hp0,hp1,hp2,hp3,Zp]),hL.bw⟩
            · go_wp2
              go_ret;exact ⟨aH (by rw [HF.out,HP.out];simp [HA.out,hp0,hp1,hp2,hp3]),hL.bw⟩
          · rcases hp3:(decide (s.colour<2)) with _ | _
            · rcases Zp:(decide (0<s.aY)) with _ | _
              · go_wp2
                go_meet;exact ⟨by rw [HP.out];simp [hp0,hp1,hp2,hp3,Zp],hL⟩
              · go_wp2
                go_ret;exact ⟨aH (by rw [HF.out,HP.out];simp [HA.out,hp0,hp1,hp2,hp3,Zp]),hL.bw⟩
            · go_wp2
              go_ret;exact ⟨aH (by rw [HF.out,HP.out];simp [HA.out,hp0,hp1,hp2,hp3]),hL.bw⟩
        · rcases hp2:(s.colour != 0) with _ | _
          · go_wp2
            go_meet;exact ⟨by rw [HP.out];simp [hp0,hp1,hp2],hL⟩
          · go_wp2
            go_ret;exact ⟨aH (by rw [HF.out,HP.out];simp [HA.out,hp0,hp1,hp2]),hL.bw⟩
      · rcases hp1:(s.colour != 0) with _ | _
        · rcases hp2:(s.aY == 0) with _ | _
          · go_wp2
            go_meet;exact ⟨by rw [HP.out];simp [hp0,hp1,hp2],hL⟩
          · go_wp2
            go_ret;exact ⟨aH (by rw [HF.out,HP.out];simp [HA.out,hp0,hp1,hp2]),hL.bw⟩
        · go_wp2
          go_ret;exact ⟨aH (by rw [HF.out,HP.out];simp [HA.out,hp0,hp1]),hL.bw⟩
     case rest=>
      obtain ⟨hP,hL⟩:=hcut;have HPB:=hide hP;clear hP;have HF2:=hide (show Sk.aat g s=if fxF s then false else if (g.kind.toList == [98,105,108,108,105,97,114,100,115]) && fxR g s && decide (s.ay<0) then false else if !(g.kind.toList == [99,97,114,111,109]) then true else if decide (0≤s.ay) then (s.t0 == s.t1) || (s.turn == 1 && (s.t0 == s.t1+1)) else if s.turn == 1 then (s.t0 == s.t1+1) else (s.t0 == s.t1) && !fxR g s && decide (s.t0<g.turns) by rw [HF.out,HA.out,HPB.out];rfl);clear HF HA HPB;obtain ⟨fr,hfr⟩:∃ q,s.free=q:=⟨_,rfl⟩;obtain ⟨fo,hfo⟩:∃ q,s.aN=q:=⟨_,rfl⟩;have HFF:=hide (show fxF s=((fr && fo) || ((fr || fo) && ((s.phase.toList == [99,111,108,111,117,114]) || decide (0≤s.ay)))) by unfold fxF;rw [hfr,hfo]);have WQ:=(hL.get 1 rfl).cell (j:=7) rfl;have kf8:=(hL.get 1 rfl).cell (j:=8) rfl;rw [hfr] at WQ;rw [hfo] at kf8;clear hfr hfo
      go_upto_region 15 with (fail)
      go_cut [96] from 73 to 97 (fun v96 wx=>v96= .bool (fxF s)∧Bx w wx [(w.heap.size,bK g,28),(w.heap.size+1,aC s,39)])
      case first=>
       have ayq:=(hL.get 1 rfl).cell (j:=4) rfl;have acG:=(hL.get 1 rfl).cell (j:=12) rfl
       rcases ha0:(fr) with _ | _
       · rcases ha1:(fo) with _ | _
         · go_wp2
           go_meet;exact ⟨congrArg Value.bool (by rw [HFF.out];simp [ha0,ha1]),hL⟩
         · rcases ha2:((s.phase.toList == [99,111,108,111,117,114])) with _ | _
           · rcases wo:(decide (0≤s.ay)) with _ | _
             · go_wp2
               go_meet;exact ⟨congrArg Value.bool (by rw [HFF.out];simp [ha0,ha1,ha2,wo]),hL⟩
             · go_wp2
               go_meet;exact ⟨congrArg Value.bool (by rw [HFF.out];simp [ha0,ha1,ha2,wo]),hL⟩
           · go_wp2
             go_meet;exact ⟨congrArg Value.bool (by rw [HFF.out];simp [ha0,ha1,ha2]),hL⟩
       · rcases ha1:(fo) with _ | _
         · rcases ha2:((s.phase.toList == [99,111,108,111,117,114])) with _ | _
           · rcases wo:(decide (0≤s.ay)) with _ | _
             · go_wp2
               go_meet;exact ⟨congrArg Value.bool (by rw [HFF.out];simp [ha0,ha1,ha2,wo]),hL⟩
             · go_wp2
               go_meet;exact ⟨congrArg Value.bool (by rw [HFF.out];simp [ha0,ha1,ha2,wo]),hL⟩
           · go_wp2
             go_meet;exact ⟨congrArg Value.bool (by rw [HFF.out];simp [ha0,ha1,ha2]),hL⟩
         · go_wp2
           go_meet;exact ⟨congrArg Value.bool (by rw [HFF.out];simp [ha0,ha1]),hL⟩
      case rest=>
       obtain ⟨rfl,hL⟩:=hcut;clear WQ kf8 HFF
       rcases hF1:fxF s with _ | _
       rotate_left
       · have HR:=hide (show Sk.aat g s=false by rw [HF2.out,hF1];rfl)
         clear hF1;go_wp2;go_ret;exact ⟨aH HR.out.symm,hL.bw⟩
       · have HF3:=hide (show Sk.aat g s=if (g.kind.toList == [98,105,108,108,105,97,114,100,115]) && fxR g s && decide (s.ay<0) then false else if !(g.kind.toList == [99,97,114,111,109]) then true else if decide (0≤s.ay) then (s.t0 == s.t1) || (s.turn == 1 && (s.t0 == s.t1+1)) else if s.turn == 1 then (s.t0 == s.t1+1) else (s.t0 == s.t1) && !fxR g s && decide (s.t0<g.turns) by rw [HF2.out,hF1];rfl)
         clear HF2 hF1
         go_upto_region 17 with (fail)
         go_cut [5] from 97 to 112 (fun v5 wx=>v5= .bool (fxR g s)∧Bx w wx [(w.heap.size,bK g,28),(w.heap.size+1,aC s,39)])
         case first=>
          have axK:=(hL.get 0 rfl).cell (j:=2) rfl;have ax5:=(hL.get 1 rfl).cell (j:=1) rfl;have ayc:=(hL.get 1 rfl).cell (j:=2) rfl
          rcases ha0:(decide (0<g.target)) with _ | _
          · go_wp2
            all_goals go_meet
            all_goals exact ⟨congrArg Value.bool (by unfold fxR;simp [ha0];try omega),hL⟩
          · go_wp2
            all_goals go_meet
            all_goals exact ⟨congrArg Value.bool (by unfold fxR;simp [ha0];try omega),hL⟩
         case rest=>
          obtain ⟨rfl,hL⟩:=hcut
          go_upto_region 18 with (fail)
          go_cut [5,122] from 112 to 123 (fun v5 amP wx=>v5= .bool (fxR g s)∧amP= .bool ((g.kind.toList == [98,105,108,108,105,97,114,100,115]) && fxR g s && decide (s.ay<0))∧Bx w wx [(w.heap.size,bK g,28),(w.heap.size+1,aC s,39)])
          case first=>
           have ai0:=(hL.get 0 rfl).cell (j:=0) rfl;have acG:=(hL.get 1 rfl).cell (j:=12) rfl
           rcases ha0:((g.kind.toList == [98,105,108,108,105,97,114,100,115])) with _ | _
           · go_wp2
             go_meet;exact ⟨congrArg Value.bool (by simp [ha0]),congrArg Value.bool (by simp [ha0]),hL⟩
           · rcases ha1:(fxR g s) with _ | _
             · go_wp2
               go_meet;exact ⟨congrArg Value.bool (by simp [ha0,ha1]),congrArg Value.bool (by simp [ha0,ha1]),hL⟩
             · go_wp2
               go_meet;exact ⟨congrArg Value.bool (by simp [ha0,ha1]),congrArg Value.bool (by simp [ha0,ha1]),hL⟩
          case rest=>
           obtain ⟨rfl,rfl,hL⟩:=hcut;obtain ⟨rr,hrr⟩:∃ q,fxR g s=q:=⟨_,rfl⟩;rw [hrr] at HF3;rw [hrr];clear hrr
           rcases hB1:((g.kind.toList == [98,105,108,108,105,97,114,100,115]) && rr && decide (s.ay<0)) with _ | _
           rotate_left
           · have HR:=hide (show Sk.aat g s=false by rw [HF3.out,hB1];rfl)
             clear hB1;go_wp2;go_ret;exact ⟨aH HR.out.symm,hL.bw⟩
           · have HF4:=hide (show Sk.aat g s=if !(g.kind.toList == [99,97,114,111,109]) then true else if decide (0≤s.ay) then (s.t0 == s.t1) || (s.turn == 1 && (s.t0 == s.t1+1)) else if s.turn == 1 then (s.t0 == s.t1+1) else (s.t0 == s.t1) && !rr && decide (s.t0<g.turns) by rw [HF3.out,hB1];rfl)
             clear HF3 hB1
             have hw1:IntKind.i64.wrap (s.t1+1)=s.t1+1:=by rw [IntKind.wrap_i64];omega
             have ai0:=(hL.get 0 rfl).cell (j:=0) rfl;have alr:=(hL.get 0 rfl).cell (j:=3) rfl;have aeL:=(hL.get 1 rfl).cell (j:=0) rfl;have aku:=(hL.get 1 rfl).cell (j:=10) rfl;have akD:=(hL.get 1 rfl).cell (j:=11) rfl;have acG:=(hL.get 1 rfl).cell (j:=12) rfl
             rcases ha0:((g.kind.toList == [99,97,114,111,109])) with _ | _
             · go_wp2
               go_ret;exact ⟨aH (by rw [HF4.out];simp [ha0]),hL.bw⟩
             · rcases ha1:(decide (0≤s.ay)) with _ | _
               · rcases ha2:(s.turn == 1) with _ | _
                 · rcases wo:((s.t0 == s.t1)) with _ | _
                   · go_wp2
                     go_ret;exact ⟨aH (by rw [HF4.out];simp [ha0,ha1,ha2,wo]),hL.bw⟩
                   · rcases IU:(rr) with _ | _
                     · go_wp2
                       go_ret;exact ⟨aH (by rw [HF4.out];simp [ha0,ha1,ha2,wo,IU]),hL.bw⟩
                     · go_wp2
                       go_ret;exact ⟨aH (by rw [HF4.out];simp [ha0,ha1,ha2,wo,IU]),hL.bw⟩
                 · go_wp2
                   go_ret;exact ⟨aH (by rw [HF4.out];simp [ha0,ha1,ha2]),hL.bw⟩
               · rcases ha2:((s.t0 == s.t1)) with _ | _
                 · rcases wo:(s.turn == 1) with _ | _
                   · go_wp2
                     go_ret;exact ⟨aH (by rw [HF4.out];simp [ha0,ha1,ha2,wo]),hL.bw⟩
                   · go_wp2
                     go_ret;exact ⟨aH (by rw [HF4.out];simp [ha0,ha1,ha2,wo]),hL.bw⟩
                 · go_wp2
                   go_ret;exact ⟨aH (by rw [HF4.out];simp [ha0,ha1,ha2]),hL.bw⟩
def aaR (g:Sk.Game) (s:Sk.State):Bool:=Sk.out s.turn 0 1 || Sk.out s.s0 0 99999 || Sk.out s.s1 0 99999 || Sk.out s.brk 0 99999 || Sk.out s.aY 0 g.aY || Sk.out s.colour 0 7 || Sk.out s.aO 0 5 || Sk.out s.t0 0 g.turns || Sk.out s.t1 0 g.turns || Sk.out s.ay (-1) 2
theorem aiB (g:Sk.Game) (s:Sk.State):Sk.far g s=aaR g s:=by
 unfold Sk.far aaR
 rw [Bool.eq_iff_iff]
 simp only [decide_eq_true_eq,Bool.or_eq_true]
 constructor
 · rintro (h | h | h | h | h | h | h | h | h | h) <;> simp [h]
 · rintro (((((((((h | h) | h) | h) | h) | h) | h) | h) | h) | h) <;> simp [h]
theorem ah9 (g:Sk.Game) (s:Sk.State):Sk.dh g s=if Sk.dM g≠0 then Sk.dM g else if aaR g s then 3 else if !Sk.jq g s.phase then 13 else if !Sk.aat g s then 19 else 0:=by
 rw [← Sk.afi, ← aiB]
 unfold Sk.acy
 simp
theorem akT {g:Sk.Game} {s:Sk.State} (hz:Sk.dM g=0) (h:aaR g s=false):(s.turn=0∨s.turn=1)∧(0≤s.t0∧s.t0≤100)∧0≤s.t1∧s.t1≤100:=by
 unfold aaR at h
 simp only [Bool.or_eq_false_iff] at h
 obtain ⟨⟨⟨⟨⟨⟨⟨⟨⟨h1,h2⟩,h3⟩,h4⟩,h5⟩,h6⟩,h7⟩,h8⟩,h9⟩,h10⟩:=h;have a:=Sk.Yr h1;have b:=Sk.Yr h8;have c:=Sk.Yr h9;have hc:=Sk.iW hz
 omega
theorem acX (g:Sk.Game) (s:Sk.State) (w:World):Calls Tryz.prog 19 #[lX g,jE s] w fun e w'=>e= .returned (.int .i64 (Sk.dh g s))∧Below w.heap.size w w':=by
 have HF:=hide (ah9 g s)
 go_enter Tryz.func19,Tryz.ntmps19
 go_upto_region 0 with (fail)
 go_cut [2,3,4] (fun v2 v3 v4 wx=>v2=ptr (w.heap.size)∧v3=ptr (w.heap.size+1)∧v4= .int .i64 0∧Bx w wx [(w.heap.size,bK g,28),(w.heap.size+1,aC s,39)])
 case first=>
  go_wp2;go_meet;exact ⟨rfl,rfl,rfl,Bx.of (((aG.nil w).new (by simp) (bK g) 28).new (by simp) (aC s) 39) _ rfl⟩
 case rest=>
  obtain ⟨rfl,rfl,rfl,hL⟩:=hcut
  go_upto_region 2 with (first | ((with_reducible refine bJ 28 2 ?_);refine ig (hL.rn 0 0 (bK g)) Tryz.underlying28 dP ?_) | ((with_reducible refine iy 28 2 ?_);refine kP (hL.rn 0 0 (bK g)) Tryz.underlying28 dP ?_) | (go_at_call 17;refine (zB g _).mono ?_;rintro e w5 ⟨rfl,hb5⟩;have hL:=hL.call hb5))
  obtain ⟨n,hn⟩:∃ q,Sk.dM g=q:=⟨_,rfl⟩
  rcases hz:(n != 0) with _ | _
  rotate_left
  · have HR:=hide (show n=Sk.dh g s by rw [HF.out,hn,if_pos (by simpa using hz)])
    rw [hn];clear hn;go_wp2;go_ret;exact ⟨aV HR.out,hL.bw⟩
  · have hz1:n=0:=by simpa using hz
    subst hz1;have HZ:=hide hn;have HF2:=hide (show Sk.dh g s=if aaR g s then 3 else if !Sk.jq g s.phase then 13 else if !Sk.aat g s then 19 else 0 by rw [HF.out,if_neg (by simp [hn])]);rw [hn];clear hn hz HF
    go_upto_region 4 with (fail)
    go_cut [68] from 5 to 69 (fun v68 wx=>v68= .bool (aaR g s)∧Bx w wx [(w.heap.size,bK g,28),(w.heap.size+1,aC s,39)])
    case first=>
     have axD:=(hL.get 0 rfl).cell (j:=1) rfl;have alr:=(hL.get 0 rfl).cell (j:=3) rfl;have aeL:=(hL.get 1 rfl).cell (j:=0) rfl;have ax5:=(hL.get 1 rfl).cell (j:=1) rfl;have ayc:=(hL.get 1 rfl).cell (j:=2) rfl;have ayj:=(hL.get 1 rfl).cell (j:=3) rfl;have alB:=(hL.get 1 rfl).cell (j:=5) rfl;have alJ:=(hL.get 1 rfl).cell (j:=6) rfl;have al7:=(hL.get 1 rfl).cell (j:=9) rfl;have aku:=(hL.get 1 rfl).cell (j:=10) rfl;have akD:=(hL.get 1 rfl).cell (j:=11) rfl;have acG:=(hL.get 1 rfl).cell (j:=12) rfl
     rcases ha0:(Sk.out s.turn 0 1) with _ | _
     · rcases ha1:(Sk.out s.s0 0 99999) with _ | _
       · rcases ha2:(Sk.out s.s1 0 99999) with _ | _
         · rcases wo:(Sk.out s.brk 0 99999) with _ | _
           · rcases IU:(Sk.out s.aY 0 g.aY) with _ | _
             · rcases ha5:(Sk.out s.colour 0 7) with _ | _
               · rcases ha6:(Sk.out s.aO 0 5) with _ | _
                 · rcases ha7:(Sk.out s.t0 0 g.turns) with _ | _
                   · rcases ha8:(Sk.out s.t1 0 g.turns) with _ | _
                     · rcases ha9:(Sk.out s.ay (-1) 2) with _ | _
                       · go_wp2_with (go_at_call 69;refine (BH _ _ _ _).mono ?_;rintro e w2 ⟨rfl,rfl⟩)
                         go_meet;exact ⟨congrArg Value.bool (by unfold aaR;simp [ha0,ha1,ha2,wo,IU,ha5,ha6,ha7,ha8,ha9]),hL⟩
                       · go_wp2_with (go_at_call 69;refine (BH _ _ _ _).mono ?_;rintro e w2 ⟨rfl,rfl⟩)
                         go_meet;exact ⟨congrArg Value.bool (by unfold aaR;simp [ha0,ha1,ha2,wo,IU,ha5,ha6,ha7,ha8,ha9]),hL⟩
                     · go_wp2_with (go_at_call 69;refine (BH _ _ _ _).mono ?_;rintro e w2 ⟨rfl,rfl⟩)
                       go_meet;exact ⟨congrArg Value.bool (by unfold aaR;simp [ha0,ha1,ha2,wo,IU,ha5,ha6,ha7,ha8]),hL⟩
                   · go_wp2_with (go_at_call 69;refine (BH _ _ _ _).mono ?_;rintro e w2 ⟨rfl,rfl⟩)
                     go_meet;exact ⟨congrArg Value.bool (by unfold aaR;simp [ha0,ha1,ha2,wo,IU,ha5,ha6,ha7]),hL⟩
                 · go_wp2_with (go_at_call 69;refine (BH _ _ _ _).mono ?_;rintro e w2 ⟨rfl,rfl⟩)
                   go_meet;exact ⟨congrArg Value.bool (by unfold aaR;simp [ha0,ha1,ha2,wo,IU,ha5,ha6]),hL⟩
               · go_wp2_with (go_at_call 69;refine (BH _ _ _ _).mono ?_;rintro e w2 ⟨rfl,rfl⟩)
                 go_meet;exact ⟨congrArg Value.bool (by unfold aaR;simp [ha0,ha1,ha2,wo,IU,ha5]),hL⟩
             · go_wp2_with (go_at_call 69;refine (BH _ _ _ _).mono ?_;rintro e w2 ⟨rfl,rfl⟩)
               go_meet;exact ⟨congrArg Value.bool (by unfold aaR;simp [ha0,ha1,ha2,wo,IU]),hL⟩
           · go_wp2_with (go_at_call 69;refine (BH _ _ _ _).mono ?_;rintro e w2 ⟨rfl,rfl⟩)
             go_meet;exact ⟨congrArg Value.bool (by unfold aaR;simp [ha0,ha1,ha2,wo]),hL⟩
         · go_wp2_with (go_at_call 69;refine (BH _ _ _ _).mono ?_;rintro e w2 ⟨rfl,rfl⟩)
           go_meet;exact ⟨congrArg Value.bool (by unfold aaR;simp [ha0,ha1,ha2]),hL⟩
       · go_wp2_with (go_at_call 69;refine (BH _ _ _ _).mono ?_;rintro e w2 ⟨rfl,rfl⟩)
         go_meet;exact ⟨congrArg Value.bool (by unfold aaR;simp [ha0,ha1]),hL⟩
     · go_wp2_with (go_at_call 69;refine (BH _ _ _ _).mono ?_;rintro e w2 ⟨rfl,rfl⟩)
       go_meet;exact ⟨congrArg Value.bool (by unfold aaR;simp [ha0]),hL⟩
    case rest=>
     obtain ⟨rfl,hL⟩:=hcut
     rcases hA:aaR g s with _ | _
     rotate_left
     · have HR:=hide (show (3:Int)=Sk.dh g s by rw [HF2.out,hA];rfl)
       clear hA;go_wp2;go_ret;exact ⟨aV HR.out,hL.bw⟩
     · obtain ⟨ht,hb⟩:=akT HZ.out hA
       have HT:=hide (fun W=>afa g s ht hb W);have HF3:=hide (show Sk.dh g s=if !Sk.jq g s.phase then 13 else if !Sk.aat g s then 19 else 0 by rw [HF2.out,hA];rfl);clear hA HF2 ht hb;have k4:=(hL.get 1 rfl).cell (j:=4) rfl
       go_upto_region 6 with (fail)
       go_cut [73] from 69 to 74 (fun v73 wx=>v73= .bool (!Sk.jq g s.phase)∧Bx w wx [(w.heap.size,bK g,28),(w.heap.size+1,aC s,39)])
       case first=>
        go_wp2_with (first | ((with_reducible refine bJ 28 2 ?_);refine ig (hL.rn 0 0 (bK g)) Tryz.underlying28 dP ?_) | ((with_reducible refine iy 28 2 ?_);refine kP (hL.rn 0 0 (bK g)) Tryz.underlying28 dP ?_) | (go_at_call 70;refine (adF g s.phase _).mono ?_;rintro e w6 ⟨rfl,hb6⟩;have hL:=hL.call hb6))
        go_meet;exact ⟨rfl,hL⟩
       case rest=>
        obtain ⟨rfl,hL⟩:=hcut;clear k4
        rcases hP:Sk.jq g s.phase with _ | _
        · have HR:=hide (show (13:Int)=Sk.dh g s by rw [HF3.out,hP];rfl)
          clear hP;go_wp2;go_ret;exact ⟨aV HR.out,hL.bw⟩
        · have HF4:=hide (show Sk.dh g s=if !Sk.aat g s then 19 else 0 by rw [HF3.out,hP];rfl)
          clear hP HF3
          go_upto_region 8 with (fail)
          go_cut [77] from 74 to 78 (fun v77 wx=>v77= .bool (!Sk.aat g s)∧Bx w wx [(w.heap.size,bK g,28),(w.heap.size+1,aC s,39)])
          case first=>
           go_wp2_with (first | ((with_reducible refine bJ 28 2 ?_);refine ig (hL.rn 0 0 (bK g)) Tryz.underlying28 dP ?_) | ((with_reducible refine iy 28 2 ?_);refine kP (hL.rn 0 0 (bK g)) Tryz.underlying28 dP ?_) | ((with_reducible refine bJ 39 3 ?_);refine ig (hL.rn 1 0 (aC s)) Tryz.underlying39 aJ ?_) | ((with_reducible refine iy 39 3 ?_);refine kP (hL.rn 1 0 (aC s)) Tryz.underlying39 aJ ?_) | (go_at_call 71;refine (HT.out _).mono ?_;rintro e w7 ⟨rfl,hb7⟩;have hL:=hL.call hb7))
           go_meet;exact ⟨rfl,hL⟩
          case rest=>
           obtain ⟨rfl,hL⟩:=hcut
           rcases hP:Sk.aat g s with _ | _
           · have HR:=hide (show (19:Int)=Sk.dh g s by rw [HF4.out,hP];rfl)
             clear hP;go_wp2;go_ret;exact ⟨aV HR.out,hL.bw⟩
           · have HR:=hide (show (0:Int)=Sk.dh g s by rw [HF4.out,hP];rfl)
             clear hP;go_wp2;go_ret;exact ⟨aV HR.out,hL.bw⟩
theorem acP (S:Nat→Prop) (g:Sk.Game) (e:En) (w:World) (he:iL w S e):Calls Tryz.prog 47 #[lX g,rU e] w fun e_ w'=>e_= .returned (.int .i64 (Sk.aaJ g e.x))∧Below w.heap.size w w':=by
 go_enter Tryz.func47,Tryz.ntmps47
 go_upto_region 0 with (fail)
 go_cut [2,3,4] (fun v2 v3 v4 wx=>v2=ptr (w.heap.size)∧v3=ptr (w.heap.size+1)∧v4= .int .i64 0∧Bx w wx [(w.heap.size,bK g,28),(w.heap.size+1,dn e,85)])
 case first=>
  go_wp2;go_meet;exact ⟨rfl,rfl,rfl,Bx.of (((aG.nil w).new (by simp) (bK g) 28).new (by simp) (dn e) 85) _ rfl⟩
 case rest=>
  obtain ⟨rfl,rfl,rfl,hL⟩:=hcut
  go_upto_region 2 with (first | ((with_reducible refine bJ 28 2 ?_);refine ig (hL.rn 0 0 (bK g)) Tryz.underlying28 dP ?_) | ((with_reducible refine iy 28 2 ?_);refine kP (hL.rn 0 0 (bK g)) Tryz.underlying28 dP ?_) | (go_at_call 17;refine (zB g _).mono ?_;rintro e w5 ⟨rfl,hb5⟩;have hL:=hL.call hb5))
  obtain ⟨n,hn⟩:∃ q,Sk.dM g=q:=⟨_,rfl⟩
  rcases hz:(n != 0) with _ | _
  rotate_left
  · have HR:=hide (show n=Sk.aaJ g e.x by unfold Sk.aaJ;rw [hn,if_pos (by simpa using hz)])
    have hz2:(n == 0)=false:=by simpa using hz
    rw [hn];clear hn;go_wp2;go_ret;exact ⟨aV HR.out,hL.bw⟩
  · have hz1:n=0:=by simpa using hz
    subst hz1;have HZ:=hide hn;have qJ:=hide (show Sk.aaJ g e.x=Sk.dH g e.x by unfold Sk.aaJ;rw [if_neg (by simp [hn])]);rw [hn];clear hn hz
    go_wp2_with (first | ((with_reducible refine bJ 28 2 ?_);refine ig (hL.rn 0 0 (bK g)) Tryz.underlying28 dP ?_) | ((with_reducible refine iy 28 2 ?_);refine kP (hL.rn 0 0 (bK g)) Tryz.underlying28 dP ?_) | ((with_reducible refine bJ 85 3 ?_);refine ig (hL.rn 1 0 (dn e)) Tryz.underlying85 fE ?_) | ((with_reducible refine iy 85 3 ?_);refine kP (hL.rn 1 0 (dn e)) Tryz.underlying85 fE ?_) | (go_at_call 73;refine (JU S g HZ.out e _ (he.below hL.bw)).mono ?_;rintro e w6 ⟨rfl,hb6⟩;have hL:=hL.call hb6))
    go_ret;exact ⟨aV qJ.out.symm,hL.bw⟩
def ait (g:Sk.Game) (s:Sk.State):Bool:=decide (20<(g.kind.size:Int)) || decide (20<(s.phase.size:Int))
theorem aev (g:Sk.Game) (s:Sk.State) (w:World):Calls Tryz.prog 13 #[lX g,jE s] w fun e w'=>e= .returned (.bool (ait g s))∧Below w.heap.size w w':=by
 go_enter Tryz.func13,Tryz.ntmps13
 go_upto_region 0 with (fail)
 go_cut [2,3,4] (fun v2 v3 v4 wx=>v2=ptr (w.heap.size)∧v3=ptr (w.heap.size+1)∧v4= .bool false∧Bx w wx [(w.heap.size,bK g,23),(w.heap.size+1,aC s,26)])
 case first=>
  go_wp2;go_meet;exact ⟨rfl,rfl,rfl,Bx.of (((aG.nil w).new (by simp) (bK g) 23).new (by simp) (aC s) 26) _ rfl⟩
 case rest=>
  obtain ⟨rfl,rfl,rfl,hL⟩:=hcut;have k0:=(hL.get 0 rfl).cell (j:=0) rfl;have k4:=(hL.get 1 rfl).cell (j:=4) rfl
  rcases h1:decide (20<(g.kind.size:Int)) with _ | _
  all_goals
   go_wp2;go_ret;exact ⟨aH (by simp [ait,h1]),hL.bw⟩
end Go.Proofs.YtjbbfmofpjflmaaGreatDoor
