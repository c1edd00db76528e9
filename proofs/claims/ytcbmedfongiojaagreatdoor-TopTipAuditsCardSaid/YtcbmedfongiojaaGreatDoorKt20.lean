/- Parts of a proof. -/
import Derived.Deep.CutBlock
import Derived.Test.YtcbmedfongiojaaGreatDoorKt19
set_option maxHeartbeats 8000000
set_option maxRecDepth 100000
set_option linter.unusedVariables false
set_option linter.unusedSimpArgs false
namespace Go.Proofs.YtcbmedfongiojaaGreatDoor
open Go.RowKit
def TK (g:Sk.Game) (s:Sk.State):Bool:=(decide (Sk.score s s.turn<s.brk) || (s.ay == 2 && !(g.kind.toList == [99,97,114,111,109])) || (decide (0<s.aJ) && !(g.kind.toList == [98,105,108,108,105,97,114,100,115])))
def Ip (g:Sk.Game) (s:Sk.State):Bool:=(decide (0<g.target) && decide (g.target≤max s.s0 s.s1))
def VL (s:Sk.State):Bool:=(s.free && s.aO) || ((s.free || s.aO) && ((s.phase.toList == [99,111,108,111,117,114]) || decide (0≤s.ay)))
theorem Vj (g:Sk.Game) (s:Sk.State):Sk.kE g s=if TK g s then false else if Sk.ig s then false else if VL s then false else if (g.kind.toList == [98,105,108,108,105,97,114,100,115]) && Ip g s && decide (s.ay<0) then false else if !(g.kind.toList == [99,97,114,111,109]) then true
 else if decide (0≤s.ay) then (s.t0 == s.t1) || (s.turn == 1 && (s.t0 == s.t1+1)) else if s.turn == 1 then (s.t0 == s.t1+1) else (s.t0 == s.t1) && !Ip g s && decide (s.t0<g.turns):=by
 have e1:=jB g.kind [99,97,114,111,109];have e2:=jB g.kind [98,105,108,108,105,97,114,100,115];have e3:=jB s.phase [99,111,108,111,117,114]
 have hA:TK g s=decide (Sk.score s s.turn<s.brk∨(s.ay=2∧g.kind≠Sk.fA)∨(0<s.aJ∧g.kind≠Sk.bF)):=by
  unfold TK
  rw [e1,e2,Bool.eq_iff_iff]
  simp [or_assoc]
 have hF:VL s=Sk.cZ s:=by
  unfold VL Sk.cZ
  rw [e3,Bool.eq_iff_iff]
  simp
 have hR:Ip g s=Sk.jS g s:=by
  unfold Ip Sk.jS
  rw [Bool.eq_iff_iff]
  simp
 rw [hA,hF,hR,e1,e2]
 unfold Sk.kE
 by_cases h1:Sk.score s s.turn<s.brk∨(s.ay=2∧g.kind≠Sk.fA)∨(0<s.aJ∧g.kind≠Sk.bF)
 · rw [if_pos h1,if_pos (decide_eq_true h1)]
 rw [if_neg h1,decide_eq_false h1];clear h1 hA hF hR e1 e2 e3
 simp only [Bool.false_eq_true,if_false]
 by_cases h3:s.ay<0
 · have h3':¬ (0≤s.ay):=by omega
   have e3:decide (s.ay<0)=true:=decide_eq_true h3;have e4:decide (0≤s.ay)=false:=decide_eq_false h3';have e6:(s.t0 == s.t1)=decide (s.t0=s.t1):=rfl;have e7:(s.t0 == s.t1+1)=decide (s.t0=s.t1+1):=rfl;rw [e3,e4,e6,e7]
   simp only [h3,h3',if_false]
   cases Sk.ig s <;> cases Sk.cZ s <;> cases Sk.jS g s <;> by_cases h2:g.kind=Sk.bF <;> by_cases h4:g.kind=Sk.fA <;> by_cases h5:s.turn=1 <;> by_cases h6:s.t0=s.t1 <;> by_cases h7:s.t0=s.t1+1 <;> first | exact absurd (h2.symm.trans h4) (by decide) | (simp [h2,h4,h5,h6,h7];done) | (simp [h2,h4,h5,h6,h7];omega)
 · have h3':0≤s.ay:=by omega
   have e3:decide (s.ay<0)=false:=decide_eq_false h3;have e4:decide (0≤s.ay)=true:=decide_eq_true h3';have e6:(s.t0 == s.t1)=decide (s.t0=s.t1):=rfl;have e7:(s.t0 == s.t1+1)=decide (s.t0=s.t1+1):=rfl;rw [e3,e4,e6,e7]
   simp only [h3,h3',if_true]
   cases Sk.ig s <;> cases Sk.cZ s <;> cases Sk.jS g s <;> by_cases h2:g.kind=Sk.bF <;> by_cases h4:g.kind=Sk.fA <;> by_cases h5:s.turn=1 <;> by_cases h6:s.t0=s.t1 <;> by_cases h7:s.t0=s.t1+1 <;> first | exact absurd (h2.symm.trans h4) (by decide) | (simp [h2,h4,h5,h6,h7];done) | (simp [h2,h4,h5,h6,h7];omega)
theorem MF (g:Sk.Game) (s:Sk.State) (ht:s.turn=0∨s.turn=1) (hb:(0≤s.t0∧s.t0≤100)∧0≤s.t1∧s.t1≤100) (w:World):Calls Tryz.prog 19 #[rF g,lJ s] w fun e w'=>e= .returned (.bool (Sk.kE g s))∧Below w.heap.size w w':=by
 have HF:=hide (Vj g s)
 go_enter Tryz.func19,Tryz.ntmps19
 go_upto_region 0 with (fail)
 go_cut [2,3,4] (fun v2 v3 v4 wx=>v2=ptr (w.heap.size)∧v3=ptr (w.heap.size+1)∧v4= .bool false∧Bx w wx [(w.heap.size,dN g,28),(w.heap.size+1,aQ s,29)])
 case first=>
  go_wp2;go_meet;exact ⟨rfl,rfl,rfl,Bx.of (((aC.nil w).new (by simp) (dN g) 28).new (by simp) (aQ s) 29) _ rfl⟩
 case rest=>
  obtain ⟨rfl,rfl,rfl,hL⟩:=hcut
  go_upto_region 1 with (fail)
  go_cut [34] from 7 to 35 (fun v34 wx=>v34= .bool (TK g s)∧Bx w wx [(w.heap.size,dN g,28),(w.heap.size+1,aQ s,29)])
  case first=>
   have V6:=(hL.get 0 rfl).cell (j:=0) rfl;have Kt:=(hL.get 1 rfl).cell (j:=0) rfl;have V7:=(hL.get 1 rfl).cell (j:=1) rfl;have V8:=(hL.get 1 rfl).cell (j:=2) rfl;have ZW:=(hL.get 1 rfl).cell (j:=3) rfl;have Z8:=(hL.get 1 rfl).cell (j:=9) rfl;have Ea:=(hL.get 1 rfl).cell (j:=12) rfl
   rcases ht with htu | htu
   · have hsc:Sk.score s s.turn=s.s0:=by rw [htu];rfl
     rw [htu] at Kt;have EX:=hide (show TK g s=(decide (s.s0<s.brk) || (s.ay == 2 && !(g.kind.toList == [99,97,114,111,109])) || (decide (0<s.aJ) && !(g.kind.toList == [98,105,108,108,105,97,114,100,115]))) by unfold TK;rw [hsc]);clear hsc htu
     rcases ha0:(decide (s.s0<s.brk)) with _ | _
     · rcases ha1:(s.ay == 2) with _ | _
       · rcases ha2:(decide (0<s.aJ)) with _ | _
         · go_wp2
           go_quiet (fail)
           go_wp2;go_meet;exact ⟨congrArg Value.bool (by rw [EX.out];simp [ha0,ha1,ha2]),hL.drewN nq⟩
         · rcases rH:((g.kind.toList == [98,105,108,108,105,97,114,100,115])) with _ | _
           · go_wp2
             go_quiet (fail)
             go_wp2;go_meet;exact ⟨congrArg Value.bool (by rw [EX.out];simp [ha0,ha1,ha2,rH]),hL.drewN nq⟩
           · go_wp2
             go_quiet (fail)
             go_wp2;go_meet;exact ⟨congrArg Value.bool (by rw [EX.out];simp [ha0,ha1,ha2,rH]),hL.drewN nq⟩
       · rcases ha2:((g.kind.toList == [99,97,114,111,109])) with _ | _
         · go_wp2
           go_quiet (fail)
           go_wp2;go_meet;exact ⟨congrArg Value.bool (by rw [EX.out];simp [ha0,ha1,ha2]),hL.drewN nq⟩
         · rcases rH:(decide (0<s.aJ)) with _ | _
           · go_wp2
             go_quiet (fail)
             go_wp2;go_meet;exact ⟨congrArg Value.bool (by rw [EX.out];simp [ha0,ha1,ha2,rH]),hL.drewN nq⟩
           · rcases Ho:((g.kind.toList == [98,105,108,108,105,97,114,100,115])) with _ | _
             · go_wp2
               go_quiet (fail)
               go_wp2;go_meet;exact ⟨congrArg Value.bool (by rw [EX.out];simp [ha0,ha1,ha2,rH,Ho]),hL.drewN nq⟩
             · go_wp2
               go_quiet (fail)
               go_wp2;go_meet;exact ⟨congrArg Value.bool (by rw [EX.out];simp [ha0,ha1,ha2,rH,Ho]),hL.drewN nq⟩
     · go_wp2
       go_quiet (fail)
       go_wp2;go_meet;exact ⟨congrArg Value.bool (by rw [EX.out];simp [ha0]),hL.drewN nq⟩
   · have hsc:Sk.score s s.turn=s.s1:=by rw [htu];rfl
     rw [htu] at Kt;have EX:=hide (show TK g s=(decide (s.s1<s.brk) || (s.ay == 2 && !(g.kind.toList == [99,97,114,111,109])) || (decide (0<s.aJ) && !(g.kind.toList == [98,105,108,108,105,97,114,100,115]))) by unfold TK;rw [hsc]);clear hsc htu
     rcases ha0:(decide (s.s1<s.brk)) with _ | _
     · rcases ha1:(s.ay == 2) with _ | _
       · rcases ha2:(decide (0<s.aJ)) with _ | _
         · go_wp2
           go_quiet (fail)
           go_wp2;go_meet;exact ⟨congrArg Value.bool (by rw [EX.out];simp [ha0,ha1,ha2]),hL.drewN nq⟩
         · rcases rH:((g.kind.toList == [98,105,108,108,105,97,114,100,115])) with _ | _
           · go_wp2
             go_quiet (fail)
             go_wp2;go_meet;exact ⟨congrArg Value.bool (by rw [EX.out];simp [ha0,ha1,ha2,rH]),hL.drewN nq⟩
           · go_wp2
             go_quiet (fail)
             go_wp2;go_meet;exact ⟨congrArg Value.bool (by rw [EX.out];simp [ha0,ha1,ha2,rH]),hL.drewN nq⟩
       · rcases ha2:((g.kind.toList == [99,97,114,111,109])) with _ | _
         · go_wp2
           go_quiet (fail)
           go_wp2;go_meet;exact ⟨congrArg Value.bool (by rw [EX.out];simp [ha0,ha1,ha2]),hL.drewN nq⟩
         · rcases rH:(decide (0<s.aJ)) with _ | _
           · go_wp2
             go_quiet (fail)
             go_wp2;go_meet;exact ⟨congrArg Value.bool (by rw [EX.out];simp [ha0,ha1,ha2,rH]),hL.drewN nq⟩
           · rcases Ho:((g.kind.toList == [98,105,108,108,105,97,114,100,115])) with _ | _
             · go_wp2
               go_quiet (fail)
               go_wp2;go_meet;exact ⟨congrArg Value.bool (by rw [EX.out];simp [ha0,ha1,ha2,rH,Ho]),hL.drewN nq⟩
             · go_wp2
               go_quiet (fail)
               go_wp2;go_meet;exact ⟨congrArg Value.bool (by rw [EX.out];simp [ha0,ha1,ha2,rH,Ho]),hL.drewN nq⟩
     · go_wp2
       go_quiet (fail)
       go_wp2;go_meet;exact ⟨congrArg Value.bool (by rw [EX.out];simp [ha0]),hL.drewN nq⟩
  case rest=>
   obtain ⟨rfl,hL⟩:=hcut
   rcases hA:TK g s with _ | _
   rotate_left
   · have HR:=hide (show Sk.kE g s=false by rw [HF.out,if_pos hA])
     clear hA;go_wp2;go_ret;exact ⟨aI HR.out.symm,hL.bw⟩
   · have HA:=hide hA
     clear hA;have ZX:=(hL.get 1 rfl).cell (j:=4) rfl
     go_upto_block 0 with (fail)
     go_cut [] from 36 to 73 (fun wx=>Sk.ig s=false∧Bx w wx [(w.heap.size,dN g,28),(w.heap.size+1,aQ s,29)])
     case first=>
      have ZY:=(hL.get 1 rfl).cell (j:=5) rfl;have Z4:=(hL.get 1 rfl).cell (j:=6) rfl;have Z5:=(hL.get 1 rfl).cell (j:=7) rfl;have Z7:=(hL.get 1 rfl).cell (j:=8) rfl;have e1:=jB s.phase [114,101,100];have e2:=jB s.phase [99,111,108,111,117,114];have e3:=jB s.phase [102,105,110,97,108]
      have HP:=hide (show Sk.ig s=if (s.phase.toList == [114,101,100]) then (s.colour != 0) || (s.aW == 0) else if (s.phase.toList == [99,111,108,111,117,114]) then s.colour != 0 else if (s.phase.toList == [102,105,110,97,108]) then decide (s.colour<2) || decide (0<s.aW) else (s.colour != 0) || s.free || s.aO by
       rw [e1,e2,e3]
       unfold Sk.ig
       by_cases h1:s.phase=Sk.gu <;> by_cases h2:s.phase=Sk.bV <;> by_cases h3:s.phase=Sk.bJ <;> simp [h1,h2,h3,or_assoc] <;> (try rw [Bool.eq_iff_iff]) <;> simp [or_assoc])
      clear e1 e2 e3;obtain ⟨fr,hfr⟩:∃ q,s.free=q:=⟨_,rfl⟩;obtain ⟨fo,hfo⟩:∃ q,s.aO=q:=⟨_,rfl⟩;rw [hfr] at Z5 HP;rw [hfo] at Z7 HP;clear hfr hfo
      rcases hp0:((s.phase.toList == [114,101,100])) with _ | _
      · rcases hp1:((s.phase.toList == [99,111,108,111,117,114])) with _ | _
        · rcases hp2:((s.phase.toList == [102,105,110,97,108])) with _ | _
          · rcases hp3:(s.colour != 0) with _ | _
            · rcases YN:(fr) with _ | _
              · rcases hp5:(fo) with _ | _
                · go_wp2
                  go_meet;exact ⟨by rw [HP.out];simp [hp0,hp1,hp2,hp3,YN,hp5],hL⟩
                · go_wp2
                  go_ret;exact ⟨aI (by rw [HF.out,HP.out];simp [HA.out,hp0,hp1,hp2,hp3,YN,hp5]),hL.bw⟩
              · go_wp2
                go_ret;exact ⟨aI (by rw [HF.out,HP.out];simp [HA.out,hp0,hp1,hp2,hp3,YN]),hL.bw⟩
            · go_wp2
              go_ret;exact ⟨aI (by rw [HF.out,HP.out];simp [HA.out,hp0,hp1,hp2,hp3]),hL.bw⟩
          · rcases hp3:(decide (s.colour<2)) with _ | _
            · rcases YN:(decide (0<s.aW)) with _ | _
              · go_wp2
                go_meet;exact ⟨by rw [HP.out];simp [hp0,hp1,hp2,hp3,YN],hL⟩
              · go_wp2
                go_ret;exact ⟨aI (by rw [HF.out,HP.out];simp [HA.out,hp0,hp1,hp2,hp3,YN]),hL.bw⟩
            · go_wp2
              go_ret;exact ⟨aI (by rw [HF.out,HP.out];simp [HA.out,hp0,hp1,hp2,hp3]),hL.bw⟩
        · rcases hp2:(s.colour != 0) with _ | _
          · go_wp2
            go_meet;exact ⟨by rw [HP.out];simp [hp0,hp1,hp2],hL⟩
          · go_wp2
            go_ret;exact ⟨aI (by rw [HF.out,HP.out];simp [HA.out,hp0,hp1,hp2]),hL.bw⟩
      · rcases hp1:(s.colour != 0) with _ | _
        · rcases hp2:(s.aW == 0) with _ | _
          · go_wp2
            go_meet;exact ⟨by rw [HP.out];simp [hp0,hp1,hp2],hL⟩
          · go_wp2
            go_ret;exact ⟨aI (by rw [HF.out,HP.out];simp [HA.out,hp0,hp1,hp2]),hL.bw⟩
        · go_wp2
          go_ret;exact ⟨aI (by rw [HF.out,HP.out];simp [HA.out,hp0,hp1]),hL.bw⟩
     case rest=>
      obtain ⟨hP,hL⟩:=hcut;have HPB:=hide hP;clear hP;have HF2:=hide (show Sk.kE g s=if VL s then false else if (g.kind.toList == [98,105,108,108,105,97,114,100,115]) && Ip g s && decide (s.ay<0) then false else if !(g.kind.toList == [99,97,114,111,109]) then true else if decide (0≤s.ay) then (s.t0 == s.t1) || (s.turn == 1 && (s.t0 == s.t1+1)) else if s.turn == 1 then (s.t0 == s.t1+1) else (s.t0 == s.t1) && !Ip g s && decide (s.t0<g.turns) by rw [HF.out,HA.out,HPB.out];rfl);clear HF HA HPB;obtain ⟨fr,hfr⟩:∃ q,s.free=q:=⟨_,rfl⟩;obtain ⟨fo,hfo⟩:∃ q,s.aO=q:=⟨_,rfl⟩;have Tj:=hide (show VL s=((fr && fo) || ((fr || fo) && ((s.phase.toList == [99,111,108,111,117,114]) || decide (0≤s.ay)))) by unfold VL;rw [hfr,hfo]);have Px:=(hL.get 1 rfl).cell (j:=7) rfl;have kf8:=(hL.get 1 rfl).cell (j:=8) rfl;rw [hfr] at Px;rw [hfo] at kf8;clear hfr hfo
      go_upto_region 15 with (fail)
      go_cut [96] from 73 to 97 (fun v96 wx=>v96= .bool (VL s)∧Bx w wx [(w.heap.size,dN g,28),(w.heap.size+1,aQ s,29)])
      case first=>
       have ZX:=(hL.get 1 rfl).cell (j:=4) rfl;have Ea:=(hL.get 1 rfl).cell (j:=12) rfl
       rcases ha0:(fr) with _ | _
       · rcases ha1:(fo) with _ | _
         · go_wp2
           go_meet;exact ⟨congrArg Value.bool (by rw [Tj.out];simp [ha0,ha1]),hL⟩
         · rcases ha2:((s.phase.toList == [99,111,108,111,117,114])) with _ | _
           · rcases rH:(decide (0≤s.ay)) with _ | _
             · go_wp2
               go_meet;exact ⟨congrArg Value.bool (by rw [Tj.out];simp [ha0,ha1,ha2,rH]),hL⟩
             · go_wp2
               go_meet;exact ⟨congrArg Value.bool (by rw [Tj.out];simp [ha0,ha1,ha2,rH]),hL⟩
           · go_wp2
             go_meet;exact ⟨congrArg Value.bool (by rw [Tj.out];simp [ha0,ha1,ha2]),hL⟩
       · rcases ha1:(fo) with _ | _
         · rcases ha2:((s.phase.toList == [99,111,108,111,117,114])) with _ | _
           · rcases rH:(decide (0≤s.ay)) with _ | _
             · go_wp2
               go_meet;exact ⟨congrArg Value.bool (by rw [Tj.out];simp [ha0,ha1,ha2,rH]),hL⟩
             · go_wp2
               go_meet;exact ⟨congrArg Value.bool (by rw [Tj.out];simp [ha0,ha1,ha2,rH]),hL⟩
           · go_wp2
             go_meet;exact ⟨congrArg Value.bool (by rw [Tj.out];simp [ha0,ha1,ha2]),hL⟩
         · go_wp2
           go_meet;exact ⟨congrArg Value.bool (by rw [Tj.out];simp [ha0,ha1]),hL⟩
      case rest=>
       obtain ⟨rfl,hL⟩:=hcut;clear Px kf8 Tj
       rcases hF1:VL s with _ | _
       rotate_left
       · have HR:=hide (show Sk.kE g s=false by rw [HF2.out,hF1];rfl)
         clear hF1;go_wp2;go_ret;exact ⟨aI HR.out.symm,hL.bw⟩
       · have HF3:=hide (show Sk.kE g s=if (g.kind.toList == [98,105,108,108,105,97,114,100,115]) && Ip g s && decide (s.ay<0) then false else if !(g.kind.toList == [99,97,114,111,109]) then true else if decide (0≤s.ay) then (s.t0 == s.t1) || (s.turn == 1 && (s.t0 == s.t1+1)) else if s.turn == 1 then (s.t0 == s.t1+1) else (s.t0 == s.t1) && !Ip g s && decide (s.t0<g.turns) by rw [HF2.out,hF1];rfl)
         clear HF2 hF1
         go_upto_region 17 with (fail)
         go_cut [5] from 97 to 112 (fun v5 wx=>v5= .bool (Ip g s)∧Bx w wx [(w.heap.size,dN g,28),(w.heap.size+1,aQ s,29)])
         case first=>
          have aro:=(hL.get 0 rfl).cell (j:=2) rfl;have V7:=(hL.get 1 rfl).cell (j:=1) rfl;have V8:=(hL.get 1 rfl).cell (j:=2) rfl
          rcases ha0:(decide (0<g.target)) with _ | _
          · go_wp2
            all_goals go_meet
            all_goals exact ⟨congrArg Value.bool (by unfold Ip;simp [ha0];try omega),hL⟩
          · go_wp2
            all_goals go_meet
            all_goals exact ⟨congrArg Value.bool (by unfold Ip;simp [ha0];try omega),hL⟩
         case rest=>
          obtain ⟨rfl,hL⟩:=hcut
          go_upto_region 18 with (fail)
          go_cut [5,122] from 112 to 123 (fun v5 amj wx=>v5= .bool (Ip g s)∧amj= .bool ((g.kind.toList == [98,105,108,108,105,97,114,100,115]) && Ip g s && decide (s.ay<0))∧Bx w wx [(w.heap.size,dN g,28),(w.heap.size+1,aQ s,29)])
          case first=>
           have V6:=(hL.get 0 rfl).cell (j:=0) rfl;have Ea:=(hL.get 1 rfl).cell (j:=12) rfl
           rcases ha0:((g.kind.toList == [98,105,108,108,105,97,114,100,115])) with _ | _
           · go_wp2
             go_meet;exact ⟨congrArg Value.bool (by simp [ha0]),congrArg Value.bool (by simp [ha0]),hL⟩
           · rcases ha1:(Ip g s) with _ | _
             · go_wp2
               go_meet;exact ⟨congrArg Value.bool (by simp [ha0,ha1]),congrArg Value.bool (by simp [ha0,ha1]),hL⟩
             · go_wp2
               go_meet;exact ⟨congrArg Value.bool (by simp [ha0,ha1]),congrArg Value.bool (by simp [ha0,ha1]),hL⟩
          case rest=>
           obtain ⟨rfl,rfl,hL⟩:=hcut;obtain ⟨rr,hrr⟩:∃ q,Ip g s=q:=⟨_,rfl⟩;rw [hrr] at HF3;rw [hrr];clear hrr
           rcases hB1:((g.kind.toList == [98,105,108,108,105,97,114,100,115]) && rr && decide (s.ay<0)) with _ | _
           rotate_left
           · have HR:=hide (show Sk.kE g s=false by rw [HF3.out,hB1];rfl)
             clear hB1;go_wp2;go_ret;exact ⟨aI HR.out.symm,hL.bw⟩
           · have NC:=hide (show Sk.kE g s=if !(g.kind.toList == [99,97,114,111,109]) then true else if decide (0≤s.ay) then (s.t0 == s.t1) || (s.turn == 1 && (s.t0 == s.t1+1)) else if s.turn == 1 then (s.t0 == s.t1+1) else (s.t0 == s.t1) && !rr && decide (s.t0<g.turns) by rw [HF3.out,hB1];rfl)
             clear HF3 hB1
             have hw1:IntKind.i64.wrap (s.t1+1)=s.t1+1:=by rw [IntKind.wrap_i64];omega
             have V6:=(hL.get 0 rfl).cell (j:=0) rfl;have ZV:=(hL.get 0 rfl).cell (j:=3) rfl;have Kt:=(hL.get 1 rfl).cell (j:=0) rfl;have XJ:=(hL.get 1 rfl).cell (j:=10) rfl;have XK:=(hL.get 1 rfl).cell (j:=11) rfl;have Ea:=(hL.get 1 rfl).cell (j:=12) rfl
             rcases ha0:((g.kind.toList == [99,97,114,111,109])) with _ | _
             · go_wp2
               go_ret;exact ⟨aI (by rw [NC.out];simp [ha0]),hL.bw⟩
             · rcases ha1:(decide (0≤s.ay)) with _ | _
               · rcases ha2:(s.turn == 1) with _ | _
                 · rcases rH:((s.t0 == s.t1)) with _ | _
                   · go_wp2
                     go_ret;exact ⟨aI (by rw [NC.out];simp [ha0,ha1,ha2,rH]),hL.bw⟩
                   · rcases Ho:(rr) with _ | _
                     · go_wp2
                       go_ret;exact ⟨aI (by rw [NC.out];simp [ha0,ha1,ha2,rH,Ho]),hL.bw⟩
                     · go_wp2
                       go_ret;exact ⟨aI (by rw [NC.out];simp [ha0,ha1,ha2,rH,Ho]),hL.bw⟩
                 · go_wp2
                   go_ret;exact ⟨aI (by rw [NC.out];simp [ha0,ha1,ha2]),hL.bw⟩
               · rcases ha2:((s.t0 == s.t1)) with _ | _
                 · rcases rH:(s.turn == 1) with _ | _
                   · go_wp2
                     go_ret;exact ⟨aI (by rw [NC.out];simp [ha0,ha1,ha2,rH]),hL.bw⟩
                   · go_wp2
                     go_ret;exact ⟨aI (by rw [NC.out];simp [ha0,ha1,ha2,rH]),hL.bw⟩
                 · go_wp2
                   go_ret;exact ⟨aI (by rw [NC.out];simp [ha0,ha1,ha2]),hL.bw⟩
def qU (g:Sk.Game) (s:Sk.State):Bool:=Sk.out s.turn 0 1 || Sk.out s.s0 0 99999 || Sk.out s.s1 0 99999 || Sk.out s.brk 0 99999 || Sk.out s.aW 0 g.aW || Sk.out s.colour 0 7 || Sk.out s.aJ 0 5 || Sk.out s.t0 0 g.turns || Sk.out s.t1 0 g.turns || Sk.out s.ay (-1) 2
theorem Vh (g:Sk.Game) (s:Sk.State):Sk.far g s=qU g s:=by
 unfold Sk.far qU
 rw [Bool.eq_iff_iff]
 simp only [decide_eq_true_eq,Bool.or_eq_true]
 constructor
 · rintro (h | h | h | h | h | h | h | h | h | h) <;> simp [h]
 · rintro (((((((((h | h) | h) | h) | h) | h) | h) | h) | h) | h) <;> simp [h]
theorem RI (g:Sk.Game) (s:Sk.State):Sk.bW g s=if Sk.eU g≠0 then Sk.eU g else if qU g s then 3 else if !Sk.fH g s.phase then 13 else if !Sk.kE g s then 19 else 0:=by
 rw [← Sk.MG, ← Vh]
 unfold Sk.Ai
 simp
theorem Yj {g:Sk.Game} {s:Sk.State} (hz:Sk.eU g=0) (h:qU g s=false):(s.turn=0∨s.turn=1)∧(0≤s.t0∧s.t0≤100)∧0≤s.t1∧s.t1≤100:=by
 unfold qU at h
 simp only [Bool.or_eq_false_iff] at h
 obtain ⟨⟨⟨⟨⟨⟨⟨⟨⟨h1,h2⟩,h3⟩,h4⟩,h5⟩,h6⟩,h7⟩,h8⟩,h9⟩,h10⟩:=h;have a:=Sk.Jg h1;have b:=Sk.Jg h8;have c:=Sk.Jg h9;have hc:=Sk.gW hz
 omega
theorem Eo (g:Sk.Game) (s:Sk.State) (w:World):Calls Tryz.prog 5 #[rF g,lJ s] w fun e w'=>e= .returned (.int .i64 (Sk.bW g s))∧Below w.heap.size w w':=by
 have HF:=hide (RI g s)
 go_enter Tryz.func5,Tryz.ntmps5
 go_upto_region 0 with (fail)
 go_cut [2,3,4] (fun v2 v3 v4 wx=>v2=ptr (w.heap.size)∧v3=ptr (w.heap.size+1)∧v4= .int .i64 0∧Bx w wx [(w.heap.size,dN g,28),(w.heap.size+1,aQ s,29)])
 case first=>
  go_wp2;go_meet;exact ⟨rfl,rfl,rfl,Bx.of (((aC.nil w).new (by simp) (dN g) 28).new (by simp) (aQ s) 29) _ rfl⟩
 case rest=>
  obtain ⟨rfl,rfl,rfl,hL⟩:=hcut
  go_upto_region 2 with (first | ((with_reducible refine dh 28 2 ?_);refine nI (hL.rn 0 0 (dN g)) Tryz.underlying28 qp ?_) | ((with_reducible refine iV 28 2 ?_);refine nJ (hL.rn 0 0 (dN g)) Tryz.underlying28 qp ?_) | (go_at_call 16;refine (Gx g _).mono ?_;rintro e w5 ⟨rfl,hb5⟩;have hL:=hL.call hb5))
  obtain ⟨n,hn⟩:∃ q,Sk.eU g=q:=⟨_,rfl⟩
  rcases hz:(n != 0) with _ | _
  rotate_left
  · have HR:=hide (show n=Sk.bW g s by rw [HF.out,hn,if_pos (by simpa using hz)])
    rw [hn];clear hn;go_wp2;go_ret;exact ⟨bG HR.out,hL.bw⟩
  · have hz1:n=0:=by simpa using hz
    subst hz1;have HZ:=hide hn;have HF2:=hide (show Sk.bW g s=if qU g s then 3 else if !Sk.fH g s.phase then 13 else if !Sk.kE g s then 19 else 0 by rw [HF.out,if_neg (by simp [hn])]);rw [hn];clear hn hz HF
    go_upto_region 4 with (fail)
    go_cut [68] from 5 to 69 (fun v68 wx=>v68= .bool (qU g s)∧Bx w wx [(w.heap.size,dN g,28),(w.heap.size+1,aQ s,29)])
    case first=>
     have arf:=(hL.get 0 rfl).cell (j:=1) rfl;have ZV:=(hL.get 0 rfl).cell (j:=3) rfl;have Kt:=(hL.get 1 rfl).cell (j:=0) rfl;have V7:=(hL.get 1 rfl).cell (j:=1) rfl;have V8:=(hL.get 1 rfl).cell (j:=2) rfl;have ZW:=(hL.get 1 rfl).cell (j:=3) rfl;have ZY:=(hL.get 1 rfl).cell (j:=5) rfl;have Z4:=(hL.get 1 rfl).cell (j:=6) rfl;have Z8:=(hL.get 1 rfl).cell (j:=9) rfl;have XJ:=(hL.get 1 rfl).cell (j:=10) rfl;have XK:=(hL.get 1 rfl).cell (j:=11) rfl;have Ea:=(hL.get 1 rfl).cell (j:=12) rfl
     rcases ha0:(Sk.out s.turn 0 1) with _ | _
     · rcases ha1:(Sk.out s.s0 0 99999) with _ | _
       · rcases ha2:(Sk.out s.s1 0 99999) with _ | _
         · rcases rH:(Sk.out s.brk 0 99999) with _ | _
           · rcases Ho:(Sk.out s.aW 0 g.aW) with _ | _
             · rcases YK:(Sk.out s.colour 0 7) with _ | _
               · rcases ha6:(Sk.out s.aJ 0 5) with _ | _
                 · rcases ha7:(Sk.out s.t0 0 g.turns) with _ | _
                   · rcases ha8:(Sk.out s.t1 0 g.turns) with _ | _
                     · rcases ha9:(Sk.out s.ay (-1) 2) with _ | _
                       · go_wp2_with (go_at_call 17;refine (jR _ _ _ _).mono ?_;rintro e w2 ⟨rfl,rfl⟩)
                         go_meet;exact ⟨congrArg Value.bool (by unfold qU;simp [ha0,ha1,ha2,rH,Ho,YK,ha6,ha7,ha8,ha9]),hL⟩
                       · go_wp2_with (go_at_call 17;refine (jR _ _ _ _).mono ?_;rintro e w2 ⟨rfl,rfl⟩)
                         go_meet;exact ⟨congrArg Value.bool (by unfold qU;simp [ha0,ha1,ha2,rH,Ho,YK,ha6,ha7,ha8,ha9]),hL⟩
                     · go_wp2_with (go_at_call 17;refine (jR _ _ _ _).mono ?_;rintro e w2 ⟨rfl,rfl⟩)
                       go_meet;exact ⟨congrArg Value.bool (by unfold qU;simp [ha0,ha1,ha2,rH,Ho,YK,ha6,ha7,ha8]),hL⟩
                   · go_wp2_with (go_at_call 17;refine (jR _ _ _ _).mono ?_;rintro e w2 ⟨rfl,rfl⟩)
                     go_meet;exact ⟨congrArg Value.bool (by unfold qU;simp [ha0,ha1,ha2,rH,Ho,YK,ha6,ha7]),hL⟩
                 · go_wp2_with (go_at_call 17;refine (jR _ _ _ _).mono ?_;rintro e w2 ⟨rfl,rfl⟩)
                   go_meet;exact ⟨congrArg Value.bool (by unfold qU;simp [ha0,ha1,ha2,rH,Ho,YK,ha6]),hL⟩
               · go_wp2_with (go_at_call 17;refine (jR _ _ _ _).mono ?_;rintro e w2 ⟨rfl,rfl⟩)
                 go_meet;exact ⟨congrArg Value.bool (by unfold qU;simp [ha0,ha1,ha2,rH,Ho,YK]),hL⟩
             · go_wp2_with (go_at_call 17;refine (jR _ _ _ _).mono ?_;rintro e w2 ⟨rfl,rfl⟩)
               go_meet;exact ⟨congrArg Value.bool (by unfold qU;simp [ha0,ha1,ha2,rH,Ho]),hL⟩
           · go_wp2_with (go_at_call 17;refine (jR _ _ _ _).mono ?_;rintro e w2 ⟨rfl,rfl⟩)
             go_meet;exact ⟨congrArg Value.bool (by unfold qU;simp [ha0,ha1,ha2,rH]),hL⟩
         · go_wp2_with (go_at_call 17;refine (jR _ _ _ _).mono ?_;rintro e w2 ⟨rfl,rfl⟩)
           go_meet;exact ⟨congrArg Value.bool (by unfold qU;simp [ha0,ha1,ha2]),hL⟩
       · go_wp2_with (go_at_call 17;refine (jR _ _ _ _).mono ?_;rintro e w2 ⟨rfl,rfl⟩)
         go_meet;exact ⟨congrArg Value.bool (by unfold qU;simp [ha0,ha1]),hL⟩
     · go_wp2_with (go_at_call 17;refine (jR _ _ _ _).mono ?_;rintro e w2 ⟨rfl,rfl⟩)
       go_meet;exact ⟨congrArg Value.bool (by unfold qU;simp [ha0]),hL⟩
    case rest=>
     obtain ⟨rfl,hL⟩:=hcut
     rcases hA:qU g s with _ | _
     rotate_left
     · have HR:=hide (show (3:Int)=Sk.bW g s by rw [HF2.out,hA];rfl)
       clear hA;go_wp2;go_ret;exact ⟨bG HR.out,hL.bw⟩
     · obtain ⟨ht,hb⟩:=Yj HZ.out hA
       have HT:=hide (fun W=>MF g s ht hb W);have HF3:=hide (show Sk.bW g s=if !Sk.fH g s.phase then 13 else if !Sk.kE g s then 19 else 0 by rw [HF2.out,hA];rfl);clear hA HF2 ht hb;have k4:=(hL.get 1 rfl).cell (j:=4) rfl
       go_upto_region 6 with (fail)
       go_cut [73] from 69 to 74 (fun v73 wx=>v73= .bool (!Sk.fH g s.phase)∧Bx w wx [(w.heap.size,dN g,28),(w.heap.size+1,aQ s,29)])
       case first=>
        go_wp2_with (first | ((with_reducible refine dh 28 2 ?_);refine nI (hL.rn 0 0 (dN g)) Tryz.underlying28 qp ?_) | ((with_reducible refine iV 28 2 ?_);refine nJ (hL.rn 0 0 (dN g)) Tryz.underlying28 qp ?_) | (go_at_call 18;refine (Gy g s.phase _).mono ?_;rintro e w6 ⟨rfl,hb6⟩;have hL:=hL.call hb6))
        go_meet;exact ⟨rfl,hL⟩
       case rest=>
        obtain ⟨rfl,hL⟩:=hcut;clear k4
        rcases hP:Sk.fH g s.phase with _ | _
        · have HR:=hide (show (13:Int)=Sk.bW g s by rw [HF3.out,hP];rfl)
          clear hP;go_wp2;go_ret;exact ⟨bG HR.out,hL.bw⟩
        · have NC:=hide (show Sk.bW g s=if !Sk.kE g s then 19 else 0 by rw [HF3.out,hP];rfl)
          clear hP HF3
          go_upto_region 8 with (fail)
          go_cut [77] from 74 to 78 (fun v77 wx=>v77= .bool (!Sk.kE g s)∧Bx w wx [(w.heap.size,dN g,28),(w.heap.size+1,aQ s,29)])
          case first=>
           go_wp2_with (first | ((with_reducible refine dh 28 2 ?_);refine nI (hL.rn 0 0 (dN g)) Tryz.underlying28 qp ?_) | ((with_reducible refine iV 28 2 ?_);refine nJ (hL.rn 0 0 (dN g)) Tryz.underlying28 qp ?_) | ((with_reducible refine dh 29 3 ?_);refine nI (hL.rn 1 0 (aQ s)) Tryz.underlying29 Gz ?_) | ((with_reducible refine iV 29 3 ?_);refine nJ (hL.rn 1 0 (aQ s)) Tryz.underlying29 Gz ?_) | (go_at_call 19;refine (HT.out _).mono ?_;rintro e w7 ⟨rfl,hb7⟩;have hL:=hL.call hb7))
           go_meet;exact ⟨rfl,hL⟩
          case rest=>
           obtain ⟨rfl,hL⟩:=hcut
           rcases hP:Sk.kE g s with _ | _
           · have HR:=hide (show (19:Int)=Sk.bW g s by rw [NC.out,hP];rfl)
             clear hP;go_wp2;go_ret;exact ⟨bG HR.out,hL.bw⟩
           · have HR:=hide (show (0:Int)=Sk.bW g s by rw [NC.out,hP];rfl)
             clear hP;go_wp2;go_ret;exact ⟨bG HR.out,hL.bw⟩
end Go.Proofs.YtcbmedfongiojaaGreatDoor
