/- Parts of a proof. -/
import Derived.Deep.CutBlock
import Derived.Test.YtjbbfmofpjflmaaGreatDoorKb19
set_option maxHeartbeats 8000000
set_option maxRecDepth 100000
set_option linter.unusedVariables false
set_option linter.unusedSimpArgs false
namespace Go.Proofs.YtjbbfmofpjflmaaGreatDoor
open Go.RowKit
def Ti (g:Sk.Game) (s:Sk.State):Bool:=(decide (Sk.score s s.turn<s.brk) || (s.aB == 2 && !(g.kind.toList == [99,97,114,111,109])) || (decide (0<s.aP) && !(g.kind.toList == [98,105,108,108,105,97,114,100,115])))
def Ip (g:Sk.Game) (s:Sk.State):Bool:=(decide (0<g.target) && decide (g.target≤max s.s0 s.s1))
def Vh (s:Sk.State):Bool:=(s.free && s.aT) || ((s.free || s.aT) && ((s.phase.toList == [99,111,108,111,117,114]) || decide (0≤s.aB)))
theorem UG (g:Sk.Game) (s:Sk.State):Sk.kM g s=if Ti g s then false else if Sk.gY s then false else if Vh s then false else if (g.kind.toList == [98,105,108,108,105,97,114,100,115]) && Ip g s && decide (s.aB<0) then false else if !(g.kind.toList == [99,97,114,111,109]) then true
 else if decide (0≤s.aB) then (s.t0 == s.t1) || (s.turn == 1 && (s.t0 == s.t1+1)) else if s.turn == 1 then (s.t0 == s.t1+1) else (s.t0 == s.t1) && !Ip g s && decide (s.t0<g.turns):=by
 have e1:=gG g.kind [99,97,114,111,109];have e2:=gG g.kind [98,105,108,108,105,97,114,100,115];have e3:=gG s.phase [99,111,108,111,117,114]
 have hA:Ti g s=decide (Sk.score s s.turn<s.brk∨(s.aB=2∧g.kind≠Sk.dZ)∨(0<s.aP∧g.kind≠Sk.bM)):=by
  unfold Ti
  rw [e1,e2,Bool.eq_iff_iff]
  simp [or_assoc]
 have hF:Vh s=Sk.dD s:=by
  unfold Vh Sk.dD
  rw [e3,Bool.eq_iff_iff]
  simp
 have hR:Ip g s=Sk.jT g s:=by
  unfold Ip Sk.jT
  rw [Bool.eq_iff_iff]
  simp
 rw [hA,hF,hR,e1,e2]
 unfold Sk.kM
 by_cases h1:Sk.score s s.turn<s.brk∨(s.aB=2∧g.kind≠Sk.dZ)∨(0<s.aP∧g.kind≠Sk.bM)
 · rw [if_pos h1,if_pos (decide_eq_true h1)]
 rw [if_neg h1,decide_eq_false h1];clear h1 hA hF hR e1 e2 e3
 simp only [Bool.false_eq_true,if_false]
 by_cases h3:s.aB<0
 · have h3':¬ (0≤s.aB):=by omega
   have e3:decide (s.aB<0)=true:=decide_eq_true h3;have e4:decide (0≤s.aB)=false:=decide_eq_false h3';have e6:(s.t0 == s.t1)=decide (s.t0=s.t1):=rfl;have e7:(s.t0 == s.t1+1)=decide (s.t0=s.t1+1):=rfl;rw [e3,e4,e6,e7]
   simp only [h3,h3',if_false]
   cases Sk.gY s <;> cases Sk.dD s <;> cases Sk.jT g s <;> by_cases h2:g.kind=Sk.bM <;> by_cases h4:g.kind=Sk.dZ <;> by_cases h5:s.turn=1 <;> by_cases h6:s.t0=s.t1 <;> by_cases h7:s.t0=s.t1+1 <;> first | exact absurd (h2.symm.trans h4) (by decide) | (simp [h2,h4,h5,h6,h7];done) | (simp [h2,h4,h5,h6,h7];omega)
 · have h3':0≤s.aB:=by omega
   have e3:decide (s.aB<0)=false:=decide_eq_false h3;have e4:decide (0≤s.aB)=true:=decide_eq_true h3';have e6:(s.t0 == s.t1)=decide (s.t0=s.t1):=rfl;have e7:(s.t0 == s.t1+1)=decide (s.t0=s.t1+1):=rfl;rw [e3,e4,e6,e7]
   simp only [h3,h3',if_true]
   cases Sk.gY s <;> cases Sk.dD s <;> cases Sk.jT g s <;> by_cases h2:g.kind=Sk.bM <;> by_cases h4:g.kind=Sk.dZ <;> by_cases h5:s.turn=1 <;> by_cases h6:s.t0=s.t1 <;> by_cases h7:s.t0=s.t1+1 <;> first | exact absurd (h2.symm.trans h4) (by decide) | (simp [h2,h4,h5,h6,h7];done) | (simp [h2,h4,h5,h6,h7];omega)
theorem MC (g:Sk.Game) (s:Sk.State) (ht:s.turn=0∨s.turn=1) (hb:(0≤s.t0∧s.t0≤100)∧0≤s.t1∧s.t1≤100) (w:World):Calls Tryz.prog 71 #[lZ g,kW s] w fun e w'=>e= .returned (.bool (Sk.kM g s))∧Below w.heap.size w w':=by
 have HF:=hide (UG g s)
 go_enter Tryz.func71,Tryz.ntmps71
 go_upto_region 0 with (fail)
 go_cut [2,3,4] (fun v2 v3 v4 wx=>v2=ptr (w.heap.size)∧v3=ptr (w.heap.size+1)∧v4= .bool false∧Bx w wx [(w.heap.size,bT g,28),(w.heap.size+1,aO s,39)])
 case first=>
  go_wp2;go_meet;exact ⟨rfl,rfl,rfl,Bx.of (((aJ.nil w).new (by simp) (bT g) 28).new (by simp) (aO s) 39) _ rfl⟩
 case rest=>
  obtain ⟨rfl,rfl,rfl,hL⟩:=hcut
  go_upto_region 1 with (fail)
  go_cut [34] from 7 to 35 (fun v34 wx=>v34= .bool (Ti g s)∧Bx w wx [(w.heap.size,bT g,28),(w.heap.size+1,aO s,39)])
  case first=>
   have VF:=(hL.get 0 rfl).cell (j:=0) rfl;have Ky:=(hL.get 1 rfl).cell (j:=0) rfl;have O5:=(hL.get 1 rfl).cell (j:=1) rfl;have O6:=(hL.get 1 rfl).cell (j:=2) rfl;have VG:=(hL.get 1 rfl).cell (j:=3) rfl;have ZX:=(hL.get 1 rfl).cell (j:=9) rfl;have Ej:=(hL.get 1 rfl).cell (j:=12) rfl
   rcases ht with htu | htu
   · have hsc:Sk.score s s.turn=s.s0:=by rw [htu];rfl
     rw [htu] at Ky;have DI:=hide (show Ti g s=(decide (s.s0<s.brk) || (s.aB == 2 && !(g.kind.toList == [99,97,114,111,109])) || (decide (0<s.aP) && !(g.kind.toList == [98,105,108,108,105,97,114,100,115]))) by unfold Ti;rw [hsc]);clear hsc htu
     rcases ha0:(decide (s.s0<s.brk)) with _ | _
     · rcases ha1:(s.aB == 2) with _ | _
       · rcases ha2:(decide (0<s.aP)) with _ | _
         · go_wp2
           go_quiet (fail)
           go_wp2;go_meet;exact ⟨congrArg Value.bool (by rw [DI.out];simp [ha0,ha1,ha2]),hL.drewN nq⟩
         · rcases l7:((g.kind.toList == [98,105,108,108,105,97,114,100,115])) with _ | _
           · go_wp2
             go_quiet (fail)
             go_wp2;go_meet;exact ⟨congrArg Value.bool (by rw [DI.out];simp [ha0,ha1,ha2,l7]),hL.drewN nq⟩
           · go_wp2
             go_quiet (fail)
             go_wp2;go_meet;exact ⟨congrArg Value.bool (by rw [DI.out];simp [ha0,ha1,ha2,l7]),hL.drewN nq⟩
       · rcases ha2:((g.kind.toList == [99,97,114,111,109])) with _ | _
         · go_wp2
           go_quiet (fail)
           go_wp2;go_meet;exact ⟨congrArg Value.bool (by rw [DI.out];simp [ha0,ha1,ha2]),hL.drewN nq⟩
         · rcases l7:(decide (0<s.aP)) with _ | _
           · go_wp2
             go_quiet (fail)
             go_wp2;go_meet;exact ⟨congrArg Value.bool (by rw [DI.out];simp [ha0,ha1,ha2,l7]),hL.drewN nq⟩
           · rcases wX:((g.kind.toList == [98,105,108,108,105,97,114,100,115])) with _ | _
             · go_wp2
               go_quiet (fail)
               go_wp2;go_meet;exact ⟨congrArg Value.bool (by rw [DI.out];simp [ha0,ha1,ha2,l7,wX]),hL.drewN nq⟩
             · go_wp2
               go_quiet (fail)
               go_wp2;go_meet;exact ⟨congrArg Value.bool (by rw [DI.out];simp [ha0,ha1,ha2,l7,wX]),hL.drewN nq⟩
     · go_wp2
       go_quiet (fail)
       go_wp2;go_meet;exact ⟨congrArg Value.bool (by rw [DI.out];simp [ha0]),hL.drewN nq⟩
   · have hsc:Sk.score s s.turn=s.s1:=by rw [htu];rfl
     rw [htu] at Ky;have DI:=hide (show Ti g s=(decide (s.s1<s.brk) || (s.aB == 2 && !(g.kind.toList == [99,97,114,111,109])) || (decide (0<s.aP) && !(g.kind.toList == [98,105,108,108,105,97,114,100,115]))) by unfold Ti;rw [hsc]);clear hsc htu
     rcases ha0:(decide (s.s1<s.brk)) with _ | _
     · rcases ha1:(s.aB == 2) with _ | _
       · rcases ha2:(decide (0<s.aP)) with _ | _
         · go_wp2
           go_quiet (fail)
           go_wp2;go_meet;exact ⟨congrArg Value.bool (by rw [DI.out];simp [ha0,ha1,ha2]),hL.drewN nq⟩
         · rcases l7:((g.kind.toList == [98,105,108,108,105,97,114,100,115])) with _ | _
           · go_wp2
             go_quiet (fail)
             go_wp2;go_meet;exact ⟨congrArg Value.bool (by rw [DI.out];simp [ha0,ha1,ha2,l7]),hL.drewN nq⟩
           · go_wp2
             go_quiet (fail)
             go_wp2;go_meet;exact ⟨congrArg Value.bool (by rw [DI.out];simp [ha0,ha1,ha2,l7]),hL.drewN nq⟩
       · rcases ha2:((g.kind.toList == [99,97,114,111,109])) with _ | _
         · go_wp2
           go_quiet (fail)
           go_wp2;go_meet;exact ⟨congrArg Value.bool (by rw [DI.out];simp [ha0,ha1,ha2]),hL.drewN nq⟩
         · rcases l7:(decide (0<s.aP)) with _ | _
           · go_wp2
             go_quiet (fail)
             go_wp2;go_meet;exact ⟨congrArg Value.bool (by rw [DI.out];simp [ha0,ha1,ha2,l7]),hL.drewN nq⟩
           · rcases wX:((g.kind.toList == [98,105,108,108,105,97,114,100,115])) with _ | _
             · go_wp2
               go_quiet (fail)
               go_wp2;go_meet;exact ⟨congrArg Value.bool (by rw [DI.out];simp [ha0,ha1,ha2,l7,wX]),hL.drewN nq⟩
             · go_wp2
               go_quiet (fail)
               go_wp2;go_meet;exact ⟨congrArg Value.bool (by rw [DI.out];simp [ha0,ha1,ha2,l7,wX]),hL.drewN nq⟩
     · go_wp2
       go_quiet (fail)
       go_wp2;go_meet;exact ⟨congrArg Value.bool (by rw [DI.out];simp [ha0]),hL.drewN nq⟩
  case rest=>
   obtain ⟨rfl,hL⟩:=hcut
   rcases hA:Ti g s with _ | _
   rotate_left
   · have HR:=hide (show Sk.kM g s=false by rw [HF.out,if_pos hA])
     clear hA;go_wp2;go_ret;exact ⟨aN HR.out.symm,hL.bw⟩
   · have HA:=hide hA
     clear hA;have VH:=(hL.get 1 rfl).cell (j:=4) rfl
     go_upto_block 0 with (fail)
     go_cut [] from 36 to 73 (fun wx=>Sk.gY s=false∧Bx w wx [(w.heap.size,bT g,28),(w.heap.size+1,aO s,39)])
     case first=>
      have ZT:=(hL.get 1 rfl).cell (j:=5) rfl;have ZU:=(hL.get 1 rfl).cell (j:=6) rfl;have ZV:=(hL.get 1 rfl).cell (j:=7) rfl;have ZW:=(hL.get 1 rfl).cell (j:=8) rfl;have e1:=gG s.phase [114,101,100];have e2:=gG s.phase [99,111,108,111,117,114];have e3:=gG s.phase [102,105,110,97,108]
      have HP:=hide (show Sk.gY s=if (s.phase.toList == [114,101,100]) then (s.colour != 0) || (s.bI == 0) else if (s.phase.toList == [99,111,108,111,117,114]) then s.colour != 0 else if (s.phase.toList == [102,105,110,97,108]) then decide (s.colour<2) || decide (0<s.bI) else (s.colour != 0) || s.free || s.aT by
       rw [e1,e2,e3]
       unfold Sk.gY
       by_cases h1:s.phase=Sk.iI <;> by_cases h2:s.phase=Sk.dW <;> by_cases h3:s.phase=Sk.dG <;> simp [h1,h2,h3,or_assoc] <;> (try rw [Bool.eq_iff_iff]) <;> simp [or_assoc])
      clear e1 e2 e3;obtain ⟨fr,hfr⟩:∃ q,s.free=q:=⟨_,rfl⟩;obtain ⟨fo,hfo⟩:∃ q,s.aT=q:=⟨_,rfl⟩;rw [hfr] at ZV HP;rw [hfo] at ZW HP;clear hfr hfo
      rcases hp0:((s.phase.toList == [114,101,100])) with _ | _
      · rcases hp1:((s.phase.toList == [99,111,108,111,117,114])) with _ | _
        · rcases hp2:((s.phase.toList == [102,105,110,97,108])) with _ | _
          · rcases hp3:(s.colour != 0) with _ | _
            · rcases LH:(fr) with _ | _
              · rcases Zw:(fo) with _ | _
                · go_wp2
                  go_meet;exact ⟨by rw [HP.out];simp [hp0,hp1,hp2,hp3,LH,Zw],hL⟩
                · go_wp2
                  go_ret;exact ⟨aN (by rw [HF.out,HP.out];simp [HA.out,hp0,hp1,hp2,hp3,LH,Zw]),hL.bw⟩
              · go_wp2
                go_ret;exact ⟨aN (by rw [HF.out,HP.out];simp [HA.out,hp0,hp1,hp2,hp3,LH]),hL.bw⟩
            · go_wp2
              go_ret;exact ⟨aN (by rw [HF.out,HP.out];simp [HA.out,hp0,hp1,hp2,hp3]),hL.bw⟩
          · rcases hp3:(decide (s.colour<2)) with _ | _
            · rcases LH:(decide (0<s.bI)) with _ | _
              · go_wp2
                go_meet;exact ⟨by rw [HP.out];simp [hp0,hp1,hp2,hp3,LH],hL⟩
              · go_wp2
                go_ret;exact ⟨aN (by rw [HF.out,HP.out];simp [HA.out,hp0,hp1,hp2,hp3,LH]),hL.bw⟩
            · go_wp2
              go_ret;exact ⟨aN (by rw [HF.out,HP.out];simp [HA.out,hp0,hp1,hp2,hp3]),hL.bw⟩
        · rcases hp2:(s.colour != 0) with _ | _
          · go_wp2
            go_meet;exact ⟨by rw [HP.out];simp [hp0,hp1,hp2],hL⟩
          · go_wp2
            go_ret;exact ⟨aN (by rw [HF.out,HP.out];simp [HA.out,hp0,hp1,hp2]),hL.bw⟩
      · rcases hp1:(s.colour != 0) with _ | _
        · rcases hp2:(s.bI == 0) with _ | _
          · go_wp2
            go_meet;exact ⟨by rw [HP.out];simp [hp0,hp1,hp2],hL⟩
          · go_wp2
            go_ret;exact ⟨aN (by rw [HF.out,HP.out];simp [HA.out,hp0,hp1,hp2]),hL.bw⟩
        · go_wp2
          go_ret;exact ⟨aN (by rw [HF.out,HP.out];simp [HA.out,hp0,hp1]),hL.bw⟩
     case rest=>
      obtain ⟨hP,hL⟩:=hcut;have HPB:=hide hP;clear hP;have HF2:=hide (show Sk.kM g s=if Vh s then false else if (g.kind.toList == [98,105,108,108,105,97,114,100,115]) && Ip g s && decide (s.aB<0) then false else if !(g.kind.toList == [99,97,114,111,109]) then true else if decide (0≤s.aB) then (s.t0 == s.t1) || (s.turn == 1 && (s.t0 == s.t1+1)) else if s.turn == 1 then (s.t0 == s.t1+1) else (s.t0 == s.t1) && !Ip g s && decide (s.t0<g.turns) by rw [HF.out,HA.out,HPB.out];rfl);clear HF HA HPB;obtain ⟨fr,hfr⟩:∃ q,s.free=q:=⟨_,rfl⟩;obtain ⟨fo,hfo⟩:∃ q,s.aT=q:=⟨_,rfl⟩;have SC:=hide (show Vh s=((fr && fo) || ((fr || fo) && ((s.phase.toList == [99,111,108,111,117,114]) || decide (0≤s.aB)))) by unfold Vh;rw [hfr,hfo]);have O7:=(hL.get 1 rfl).cell (j:=7) rfl;have kf8:=(hL.get 1 rfl).cell (j:=8) rfl;rw [hfr] at O7;rw [hfo] at kf8;clear hfr hfo
      go_upto_region 15 with (fail)
      go_cut [96] from 73 to 97 (fun v96 wx=>v96= .bool (Vh s)∧Bx w wx [(w.heap.size,bT g,28),(w.heap.size+1,aO s,39)])
      case first=>
       have VH:=(hL.get 1 rfl).cell (j:=4) rfl;have Ej:=(hL.get 1 rfl).cell (j:=12) rfl
       rcases ha0:(fr) with _ | _
       · rcases ha1:(fo) with _ | _
         · go_wp2
           go_meet;exact ⟨congrArg Value.bool (by rw [SC.out];simp [ha0,ha1]),hL⟩
         · rcases ha2:((s.phase.toList == [99,111,108,111,117,114])) with _ | _
           · rcases l7:(decide (0≤s.aB)) with _ | _
             · go_wp2
               go_meet;exact ⟨congrArg Value.bool (by rw [SC.out];simp [ha0,ha1,ha2,l7]),hL⟩
             · go_wp2
               go_meet;exact ⟨congrArg Value.bool (by rw [SC.out];simp [ha0,ha1,ha2,l7]),hL⟩
           · go_wp2
             go_meet;exact ⟨congrArg Value.bool (by rw [SC.out];simp [ha0,ha1,ha2]),hL⟩
       · rcases ha1:(fo) with _ | _
         · rcases ha2:((s.phase.toList == [99,111,108,111,117,114])) with _ | _
           · rcases l7:(decide (0≤s.aB)) with _ | _
             · go_wp2
               go_meet;exact ⟨congrArg Value.bool (by rw [SC.out];simp [ha0,ha1,ha2,l7]),hL⟩
             · go_wp2
               go_meet;exact ⟨congrArg Value.bool (by rw [SC.out];simp [ha0,ha1,ha2,l7]),hL⟩
           · go_wp2
             go_meet;exact ⟨congrArg Value.bool (by rw [SC.out];simp [ha0,ha1,ha2]),hL⟩
         · go_wp2
           go_meet;exact ⟨congrArg Value.bool (by rw [SC.out];simp [ha0,ha1]),hL⟩
      case rest=>
       obtain ⟨rfl,hL⟩:=hcut;clear O7 kf8 SC
       rcases hF1:Vh s with _ | _
       rotate_left
       · have HR:=hide (show Sk.kM g s=false by rw [HF2.out,hF1];rfl)
         clear hF1;go_wp2;go_ret;exact ⟨aN HR.out.symm,hL.bw⟩
       · have HF3:=hide (show Sk.kM g s=if (g.kind.toList == [98,105,108,108,105,97,114,100,115]) && Ip g s && decide (s.aB<0) then false else if !(g.kind.toList == [99,97,114,111,109]) then true else if decide (0≤s.aB) then (s.t0 == s.t1) || (s.turn == 1 && (s.t0 == s.t1+1)) else if s.turn == 1 then (s.t0 == s.t1+1) else (s.t0 == s.t1) && !Ip g s && decide (s.t0<g.turns) by rw [HF2.out,hF1];rfl)
         clear HF2 hF1
         go_upto_region 17 with (fail)
         go_cut [5] from 97 to 112 (fun v5 wx=>v5= .bool (Ip g s)∧Bx w wx [(w.heap.size,bT g,28),(w.heap.size+1,aO s,39)])
         case first=>
          have arW:=(hL.get 0 rfl).cell (j:=2) rfl;have O5:=(hL.get 1 rfl).cell (j:=1) rfl;have O6:=(hL.get 1 rfl).cell (j:=2) rfl
          rcases ha0:(decide (0<g.target)) with _ | _
          · go_wp2
            all_goals go_meet
            all_goals exact ⟨congrArg Value.bool (by unfold Ip;simp [ha0];try omega),hL⟩
          · go_wp2
            all_goals go_meet
            all_goals exact ⟨congrArg Value.bool (by unfold Ip;simp [ha0];try omega),hL⟩
         case rest=>
          obtain ⟨rfl,hL⟩:=hcut
          go_upto_region 18 with (fail)
          go_cut [5,122] from 112 to 123 (fun v5 amD wx=>v5= .bool (Ip g s)∧amD= .bool ((g.kind.toList == [98,105,108,108,105,97,114,100,115]) && Ip g s && decide (s.aB<0))∧Bx w wx [(w.heap.size,bT g,28),(w.heap.size+1,aO s,39)])
          case first=>
           have VF:=(hL.get 0 rfl).cell (j:=0) rfl;have Ej:=(hL.get 1 rfl).cell (j:=12) rfl
           rcases ha0:((g.kind.toList == [98,105,108,108,105,97,114,100,115])) with _ | _
           · go_wp2
             go_meet;exact ⟨congrArg Value.bool (by simp [ha0]),congrArg Value.bool (by simp [ha0]),hL⟩
           · rcases ha1:(Ip g s) with _ | _
             · go_wp2
               go_meet;exact ⟨congrArg Value.bool (by simp [ha0,ha1]),congrArg Value.bool (by simp [ha0,ha1]),hL⟩
             · go_wp2
               go_meet;exact ⟨congrArg Value.bool (by simp [ha0,ha1]),congrArg Value.bool (by simp [ha0,ha1]),hL⟩
          case rest=>
           obtain ⟨rfl,rfl,hL⟩:=hcut;obtain ⟨rr,hrr⟩:∃ q,Ip g s=q:=⟨_,rfl⟩;rw [hrr] at HF3;rw [hrr];clear hrr
           rcases hB1:((g.kind.toList == [98,105,108,108,105,97,114,100,115]) && rr && decide (s.aB<0)) with _ | _
           rotate_left
           · have HR:=hide (show Sk.kM g s=false by rw [HF3.out,hB1];rfl)
             clear hB1;go_wp2;go_ret;exact ⟨aN HR.out.symm,hL.bw⟩
           · have JR:=hide (show Sk.kM g s=if !(g.kind.toList == [99,97,114,111,109]) then true else if decide (0≤s.aB) then (s.t0 == s.t1) || (s.turn == 1 && (s.t0 == s.t1+1)) else if s.turn == 1 then (s.t0 == s.t1+1) else (s.t0 == s.t1) && !rr && decide (s.t0<g.turns) by rw [HF3.out,hB1];rfl)
             clear HF3 hB1
             have hw1:IntKind.i64.wrap (s.t1+1)=s.t1+1:=by rw [IntKind.wrap_i64];omega
             have VF:=(hL.get 0 rfl).cell (j:=0) rfl;have ZR:=(hL.get 0 rfl).cell (j:=3) rfl;have Ky:=(hL.get 1 rfl).cell (j:=0) rfl;have Xx:=(hL.get 1 rfl).cell (j:=10) rfl;have Xy:=(hL.get 1 rfl).cell (j:=11) rfl;have Ej:=(hL.get 1 rfl).cell (j:=12) rfl
             rcases ha0:((g.kind.toList == [99,97,114,111,109])) with _ | _
             · go_wp2
               go_ret;exact ⟨aN (by rw [JR.out];simp [ha0]),hL.bw⟩
             · rcases ha1:(decide (0≤s.aB)) with _ | _
               · rcases ha2:(s.turn == 1) with _ | _
                 · rcases l7:((s.t0 == s.t1)) with _ | _
                   · go_wp2
                     go_ret;exact ⟨aN (by rw [JR.out];simp [ha0,ha1,ha2,l7]),hL.bw⟩
                   · rcases wX:(rr) with _ | _
                     · go_wp2
                       go_ret;exact ⟨aN (by rw [JR.out];simp [ha0,ha1,ha2,l7,wX]),hL.bw⟩
                     · go_wp2
                       go_ret;exact ⟨aN (by rw [JR.out];simp [ha0,ha1,ha2,l7,wX]),hL.bw⟩
                 · go_wp2
                   go_ret;exact ⟨aN (by rw [JR.out];simp [ha0,ha1,ha2]),hL.bw⟩
               · rcases ha2:((s.t0 == s.t1)) with _ | _
                 · rcases l7:(s.turn == 1) with _ | _
                   · go_wp2
                     go_ret;exact ⟨aN (by rw [JR.out];simp [ha0,ha1,ha2,l7]),hL.bw⟩
                   · go_wp2
                     go_ret;exact ⟨aN (by rw [JR.out];simp [ha0,ha1,ha2,l7]),hL.bw⟩
                 · go_wp2
                   go_ret;exact ⟨aN (by rw [JR.out];simp [ha0,ha1,ha2]),hL.bw⟩
def su (g:Sk.Game) (s:Sk.State):Bool:=Sk.out s.turn 0 1 || Sk.out s.s0 0 99999 || Sk.out s.s1 0 99999 || Sk.out s.brk 0 99999 || Sk.out s.bI 0 g.bI || Sk.out s.colour 0 7 || Sk.out s.aP 0 5 || Sk.out s.t0 0 g.turns || Sk.out s.t1 0 g.turns || Sk.out s.aB (-1) 2
theorem UF (g:Sk.Game) (s:Sk.State):Sk.far g s=su g s:=by
 unfold Sk.far su
 rw [Bool.eq_iff_iff]
 simp only [decide_eq_true_eq,Bool.or_eq_true]
 constructor
 · rintro (h | h | h | h | h | h | h | h | h | h) <;> simp [h]
 · rintro (((((((((h | h) | h) | h) | h) | h) | h) | h) | h) | h) <;> simp [h]
theorem Q7 (g:Sk.Game) (s:Sk.State):Sk.bP g s=if Sk.dn g≠0 then Sk.dn g else if su g s then 3 else if !Sk.fH g s.phase then 13 else if !Sk.kM g s then 19 else 0:=by
 rw [← Sk.MF, ← UF]
 unfold Sk.Az
 simp
theorem X4 {g:Sk.Game} {s:Sk.State} (hz:Sk.dn g=0) (h:su g s=false):(s.turn=0∨s.turn=1)∧(0≤s.t0∧s.t0≤100)∧0≤s.t1∧s.t1≤100:=by
 unfold su at h
 simp only [Bool.or_eq_false_iff] at h
 obtain ⟨⟨⟨⟨⟨⟨⟨⟨⟨h1,h2⟩,h3⟩,h4⟩,h5⟩,h6⟩,h7⟩,h8⟩,h9⟩,h10⟩:=h;have a:=Sk.EC h1;have b:=Sk.EC h8;have c:=Sk.EC h9;have hc:=Sk.iM hz
 omega
theorem EJ (g:Sk.Game) (s:Sk.State) (w:World):Calls Tryz.prog 19 #[lZ g,kW s] w fun e w'=>e= .returned (.int .i64 (Sk.bP g s))∧Below w.heap.size w w':=by
 have HF:=hide (Q7 g s)
 go_enter Tryz.func19,Tryz.ntmps19
 go_upto_region 0 with (fail)
 go_cut [2,3,4] (fun v2 v3 v4 wx=>v2=ptr (w.heap.size)∧v3=ptr (w.heap.size+1)∧v4= .int .i64 0∧Bx w wx [(w.heap.size,bT g,28),(w.heap.size+1,aO s,39)])
 case first=>
  go_wp2;go_meet;exact ⟨rfl,rfl,rfl,Bx.of (((aJ.nil w).new (by simp) (bT g) 28).new (by simp) (aO s) 39) _ rfl⟩
 case rest=>
  obtain ⟨rfl,rfl,rfl,hL⟩:=hcut
  go_upto_region 2 with (first | ((with_reducible (refine ah 28 (.tmp 2) ?lx ?_));(case lx=>rfl);refine aK (hL.rng 0 rfl 0 (bT g) rfl) Tryz.underlying28 rfl bY rfl (.tmp 2) rfl rfl ?_) | ((with_reducible (refine ah 28 (.tmp 2) ?lx ?_));(case lx=>rfl);refine fA (hL.rng 0 rfl 0 (bT g) rfl) Tryz.underlying28 rfl bY rfl (.tmp 2) rfl rfl ?_) | ((with_reducible (refine aI 28 (.tmp 2) ?lx ?_));(case lx=>rfl);refine eu (hL.rng 0 rfl 0 (bT g) rfl) Tryz.underlying28 rfl bY (.tmp 2) rfl rfl ?_) | (go_at_call 17;refine (pV g _).mono ?_;rintro e w5 ⟨rfl,hb5⟩;have hL:=hL.call hb5))
  obtain ⟨n,hn⟩:∃ q,Sk.dn g=q:=⟨_,rfl⟩
  rcases hz:(n != 0) with _ | _
  rotate_left
  · have HR:=hide (show n=Sk.bP g s by rw [HF.out,hn,if_pos (by simpa using hz)])
    rw [hn];clear hn;go_wp2;go_ret;exact ⟨bf HR.out,hL.bw⟩
  · have hz1:n=0:=by simpa using hz
    subst hz1;have HZ:=hide hn;have HF2:=hide (show Sk.bP g s=if su g s then 3 else if !Sk.fH g s.phase then 13 else if !Sk.kM g s then 19 else 0 by rw [HF.out,if_neg (by simp [hn])]);rw [hn];clear hn hz HF
    go_upto_region 4 with (fail)
    go_cut [68] from 5 to 69 (fun v68 wx=>v68= .bool (su g s)∧Bx w wx [(w.heap.size,bT g,28),(w.heap.size+1,aO s,39)])
    case first=>
     have arP:=(hL.get 0 rfl).cell (j:=1) rfl;have ZR:=(hL.get 0 rfl).cell (j:=3) rfl;have Ky:=(hL.get 1 rfl).cell (j:=0) rfl;have O5:=(hL.get 1 rfl).cell (j:=1) rfl;have O6:=(hL.get 1 rfl).cell (j:=2) rfl;have VG:=(hL.get 1 rfl).cell (j:=3) rfl;have ZT:=(hL.get 1 rfl).cell (j:=5) rfl;have ZU:=(hL.get 1 rfl).cell (j:=6) rfl;have ZX:=(hL.get 1 rfl).cell (j:=9) rfl;have Xx:=(hL.get 1 rfl).cell (j:=10) rfl;have Xy:=(hL.get 1 rfl).cell (j:=11) rfl;have Ej:=(hL.get 1 rfl).cell (j:=12) rfl
     rcases ha0:(Sk.out s.turn 0 1) with _ | _
     · rcases ha1:(Sk.out s.s0 0 99999) with _ | _
       · rcases ha2:(Sk.out s.s1 0 99999) with _ | _
         · rcases l7:(Sk.out s.brk 0 99999) with _ | _
           · rcases wX:(Sk.out s.bI 0 g.bI) with _ | _
             · rcases TQ:(Sk.out s.colour 0 7) with _ | _
               · rcases ha6:(Sk.out s.aP 0 5) with _ | _
                 · rcases ha7:(Sk.out s.t0 0 g.turns) with _ | _
                   · rcases ha8:(Sk.out s.t1 0 g.turns) with _ | _
                     · rcases ha9:(Sk.out s.aB (-1) 2) with _ | _
                       · go_wp2_with (go_at_call 69;refine (jo _ _ _ _).mono ?_;rintro e w2 ⟨rfl,rfl⟩)
                         go_meet;exact ⟨congrArg Value.bool (by unfold su;simp [ha0,ha1,ha2,l7,wX,TQ,ha6,ha7,ha8,ha9]),hL⟩
                       · go_wp2_with (go_at_call 69;refine (jo _ _ _ _).mono ?_;rintro e w2 ⟨rfl,rfl⟩)
                         go_meet;exact ⟨congrArg Value.bool (by unfold su;simp [ha0,ha1,ha2,l7,wX,TQ,ha6,ha7,ha8,ha9]),hL⟩
                     · go_wp2_with (go_at_call 69;refine (jo _ _ _ _).mono ?_;rintro e w2 ⟨rfl,rfl⟩)
                       go_meet;exact ⟨congrArg Value.bool (by unfold su;simp [ha0,ha1,ha2,l7,wX,TQ,ha6,ha7,ha8]),hL⟩
                   · go_wp2_with (go_at_call 69;refine (jo _ _ _ _).mono ?_;rintro e w2 ⟨rfl,rfl⟩)
                     go_meet;exact ⟨congrArg Value.bool (by unfold su;simp [ha0,ha1,ha2,l7,wX,TQ,ha6,ha7]),hL⟩
                 · go_wp2_with (go_at_call 69;refine (jo _ _ _ _).mono ?_;rintro e w2 ⟨rfl,rfl⟩)
                   go_meet;exact ⟨congrArg Value.bool (by unfold su;simp [ha0,ha1,ha2,l7,wX,TQ,ha6]),hL⟩
               · go_wp2_with (go_at_call 69;refine (jo _ _ _ _).mono ?_;rintro e w2 ⟨rfl,rfl⟩)
                 go_meet;exact ⟨congrArg Value.bool (by unfold su;simp [ha0,ha1,ha2,l7,wX,TQ]),hL⟩
             · go_wp2_with (go_at_call 69;refine (jo _ _ _ _).mono ?_;rintro e w2 ⟨rfl,rfl⟩)
               go_meet;exact ⟨congrArg Value.bool (by unfold su;simp [ha0,ha1,ha2,l7,wX]),hL⟩
           · go_wp2_with (go_at_call 69;refine (jo _ _ _ _).mono ?_;rintro e w2 ⟨rfl,rfl⟩)
             go_meet;exact ⟨congrArg Value.bool (by unfold su;simp [ha0,ha1,ha2,l7]),hL⟩
         · go_wp2_with (go_at_call 69;refine (jo _ _ _ _).mono ?_;rintro e w2 ⟨rfl,rfl⟩)
           go_meet;exact ⟨congrArg Value.bool (by unfold su;simp [ha0,ha1,ha2]),hL⟩
       · go_wp2_with (go_at_call 69;refine (jo _ _ _ _).mono ?_;rintro e w2 ⟨rfl,rfl⟩)
         go_meet;exact ⟨congrArg Value.bool (by unfold su;simp [ha0,ha1]),hL⟩
     · go_wp2_with (go_at_call 69;refine (jo _ _ _ _).mono ?_;rintro e w2 ⟨rfl,rfl⟩)
       go_meet;exact ⟨congrArg Value.bool (by unfold su;simp [ha0]),hL⟩
    case rest=>
     obtain ⟨rfl,hL⟩:=hcut
     rcases hA:su g s with _ | _
     rotate_left
     · have HR:=hide (show (3:Int)=Sk.bP g s by rw [HF2.out,hA];rfl)
       clear hA;go_wp2;go_ret;exact ⟨bf HR.out,hL.bw⟩
     · obtain ⟨ht,hb⟩:=X4 HZ.out hA
       have HT:=hide (fun W=>MC g s ht hb W);have HF3:=hide (show Sk.bP g s=if !Sk.fH g s.phase then 13 else if !Sk.kM g s then 19 else 0 by rw [HF2.out,hA];rfl);clear hA HF2 ht hb;have k4:=(hL.get 1 rfl).cell (j:=4) rfl
       go_upto_region 6 with (fail)
       go_cut [73] from 69 to 74 (fun v73 wx=>v73= .bool (!Sk.fH g s.phase)∧Bx w wx [(w.heap.size,bT g,28),(w.heap.size+1,aO s,39)])
       case first=>
        go_wp2_with (first | ((with_reducible (refine ah 28 (.tmp 2) ?lx ?_));(case lx=>rfl);refine aK (hL.rng 0 rfl 0 (bT g) rfl) Tryz.underlying28 rfl bY rfl (.tmp 2) rfl rfl ?_) | ((with_reducible (refine ah 28 (.tmp 2) ?lx ?_));(case lx=>rfl);refine fA (hL.rng 0 rfl 0 (bT g) rfl) Tryz.underlying28 rfl bY rfl (.tmp 2) rfl rfl ?_) | ((with_reducible (refine aI 28 (.tmp 2) ?lx ?_));(case lx=>rfl);refine eu (hL.rng 0 rfl 0 (bT g) rfl) Tryz.underlying28 rfl bY (.tmp 2) rfl rfl ?_) | (go_at_call 70;refine (Gy g s.phase _).mono ?_;rintro e w6 ⟨rfl,hb6⟩;have hL:=hL.call hb6))
        go_meet;exact ⟨rfl,hL⟩
       case rest=>
        obtain ⟨rfl,hL⟩:=hcut;clear k4
        rcases hP:Sk.fH g s.phase with _ | _
        · have HR:=hide (show (13:Int)=Sk.bP g s by rw [HF3.out,hP];rfl)
          clear hP;go_wp2;go_ret;exact ⟨bf HR.out,hL.bw⟩
        · have JR:=hide (show Sk.bP g s=if !Sk.kM g s then 19 else 0 by rw [HF3.out,hP];rfl)
          clear hP HF3
          go_upto_region 8 with (fail)
          go_cut [77] from 74 to 78 (fun v77 wx=>v77= .bool (!Sk.kM g s)∧Bx w wx [(w.heap.size,bT g,28),(w.heap.size+1,aO s,39)])
          case first=>
           go_wp2_with (first | ((with_reducible (refine ah 28 (.tmp 2) ?lx ?_));(case lx=>rfl);refine aK (hL.rng 0 rfl 0 (bT g) rfl) Tryz.underlying28 rfl bY rfl (.tmp 2) rfl rfl ?_) | ((with_reducible (refine ah 28 (.tmp 2) ?lx ?_));(case lx=>rfl);refine fA (hL.rng 0 rfl 0 (bT g) rfl) Tryz.underlying28 rfl bY rfl (.tmp 2) rfl rfl ?_) | ((with_reducible (refine aI 28 (.tmp 2) ?lx ?_));(case lx=>rfl);refine eu (hL.rng 0 rfl 0 (bT g) rfl) Tryz.underlying28 rfl bY (.tmp 2) rfl rfl ?_) | ((with_reducible (refine ah 39 (.tmp 3) ?lx ?_));(case lx=>rfl);refine aK (hL.rng 1 rfl 0 (aO s) rfl) Tryz.underlying39 rfl iQ rfl (.tmp 3) rfl rfl ?_) | ((with_reducible (refine ah 39 (.tmp 3) ?lx ?_));(case lx=>rfl);refine fA (hL.rng 1 rfl 0 (aO s) rfl) Tryz.underlying39 rfl iQ rfl (.tmp 3) rfl rfl ?_) | ((with_reducible (refine aI 39 (.tmp 3) ?lx ?_));(case lx=>rfl);refine eu (hL.rng 1 rfl 0 (aO s) rfl) Tryz.underlying39 rfl iQ (.tmp 3) rfl rfl ?_) | (go_at_call 71;refine (HT.out _).mono ?_;rintro e w7 ⟨rfl,hb7⟩;have hL:=hL.call hb7))
           go_meet;exact ⟨rfl,hL⟩
          case rest=>
           obtain ⟨rfl,hL⟩:=hcut
           rcases hP:Sk.kM g s with _ | _
           · have HR:=hide (show (19:Int)=Sk.bP g s by rw [JR.out,hP];rfl)
             clear hP;go_wp2;go_ret;exact ⟨bf HR.out,hL.bw⟩
           · have HR:=hide (show (0:Int)=Sk.bP g s by rw [JR.out,hP];rfl)
             clear hP;go_wp2;go_ret;exact ⟨bf HR.out,hL.bw⟩
theorem xA:(Tryz.prog.info? 85).map (·.size)=some 5:=by kernel_rfl
theorem MI {l:List ByteArray} {x:ByteArray} {k:Nat} (hk:k<l.length):Sk.has (l.drop k) x=(decide (l[k]=x) || Sk.has (l.drop (k+1)) x):=by
 rw [List.drop_eq_getElem_cons hk,Sk.has,List.any_cons]
 rfl
theorem GH (g:Sk.Game) {l:List ByteArray} {k:Nat} (hk:k<l.length):Sk.fC g (l.drop k)=(!(decide (Sk.value l[k]<0) || (!(g.kind.toList == [115,110,111,111,107,101,114]) && decide (2<Sk.value l[k]))) && Sk.fC g (l.drop (k+1))):=by
 rw [List.drop_eq_getElem_cons hk,Sk.fC,List.all_cons,gG]
 unfold Sk.fC
 congr 1
 rw [Bool.eq_iff_iff]
 simp only [decide_eq_true_eq,Bool.not_eq_true',Bool.or_eq_false_iff,Bool.and_eq_false_iff,decide_eq_false_iff_not,Bool.not_eq_false',not_or,not_and]
 constructor
 · rintro ⟨h1,h2⟩
   refine ⟨h1,?_⟩
   by_cases h3:g.kind=Sk.aW
   · exact .inl h3
   · exact .inr (h2 h3)
 · rintro ⟨h1,h2⟩
   refine ⟨h1,fun h3=>?_⟩
   rcases h2 with h2 | h2
   · exact absurd h2 h3
   · exact h2
theorem kU (S:Nat→Prop) (A:Option Addr) (c:Nat) (l:List ByteArray) (x:ByteArray) (w:World) (h:lT w S A c l):
 Calls Tryz.prog 129 #[.slice A l.length c,.string x] w fun e w'=>e= .returned (.bool (Sk.has l x))∧w=w':=by
 obtain ⟨b1,b2,b3⟩:=h.bd
 go_enter Tryz.func129,Tryz.ntmps129
 go_wp2
 go_loop [5] (fun i=>∃ k:Nat,k≤l.length∧i= .int .i64 k∧Aside (Sk.has l x=Sk.has (l.drop k) x)) (fun i=>l.length - (intOf i).toNat)
 case atStart=>exact ⟨0,Nat.zero_le _,rfl,by simp [Aside]⟩
 case round=>
  obtain ⟨k,hk,rfl,hall⟩:=hrel
  by_cases hlt:k<l.length
  · obtain ⟨b,o,rfl,_,hbl,hc⟩:=h.at_ k hlt
    have hck:=hc k hlt;clear hc;have hx:=hall.out;rw [MI hlt] at hx
    by_cases he:l[k]=x
    · rw [decide_eq_true he,Bool.true_or] at hx
      have HP:=hide hx;have he':(l[k].toList == x.toList)=true:=lq he;clear he hx hall;go_wp2;go_ret;exact ⟨aN HP.out.symm,rfl⟩
    · rw [decide_eq_false he,Bool.false_or] at hx
      have HP:=hide hx;have he':(l[k].toList == x.toList)=false:=kZ he;clear he hx hall;go_wp2
      go_round
      case rel=>exact ⟨k+1,by omega,by go_num,HP.out⟩
      case measure=>simp [intOf];omega
  · have HA:=hide (show Sk.has l x=false by rw [hall.out,List.drop_of_length_le (by omega)];rfl)
    go_wp2;go_ret;exact ⟨aN HA.out.symm,rfl⟩
theorem eG (S:Nat→Prop) (g:Sk.Game) (A:Option Addr) (c:Nat) (l:List ByteArray) (w:World) (h:lT w S A c l):
 Calls Tryz.prog 128 #[lZ g,.slice A l.length c] w fun e w'=>e= .returned (.bool (Sk.fC g l))∧Below w.heap.size w w':=by
 obtain ⟨b1,b2,b3⟩:=h.bd
 go_enter Tryz.func128,Tryz.ntmps128
 go_upto_region 0 with (fail)
 go_cut [2,4] (fun v2 v4 wx=>v2=ptr (w.heap.size)∧v4= .bool false∧Bx w wx [(w.heap.size,bT g,28)])
 case first=>
  go_wp2;go_meet;exact ⟨rfl,rfl,Bx.of ((aJ.nil w).new (by simp) (bT g) 28) _ rfl⟩
 case rest=>
  obtain ⟨rfl,rfl,hL⟩:=hcut
  go_upto_region 1 with (fail)
  go_wp2
  go_loopw [5,6] (fun i _ wr=>∃ k:Nat,k≤l.length∧i= .int .i64 k∧Aside (Sk.fC g l=Sk.fC g (l.drop k))∧Bx w wr [(w.heap.size,bT g,28)]) (fun i _ _=>l.length - (intOf i).toNat)
  case atStart=>exact ⟨0,Nat.zero_le _,rfl,by simp [Aside],hL⟩
  case round=>
   obtain ⟨k,hk,rfl,hall,hL⟩:=hrel
   by_cases hlt:k<l.length
   · obtain ⟨b,o,rfl,_,hbl,hc⟩:=(h.below hL.bw).at_ k hlt
     have hck:=hc k hlt;clear hc;have hx:=hall.out;rw [GH g hlt] at hx;have HX:=hide hx;clear hx hall
     go_upto_region 5 with ((go_at_call 55;refine (iO _ _).mono ?_;rintro e w4 ⟨rfl,hb4⟩;have hL:=hL.call hb4))
     obtain ⟨z,hz⟩:∃ q,Sk.value l[k]=q:=⟨_,rfl⟩;rw [hz] at HX;rw [hz];clear hz hck;have kg:=(hL.get 0 rfl).cell (j:=0) rfl
     rcases ha0:(decide (z<0)) with _ | _
     · rcases ha1:((g.kind.toList == [115,110,111,111,107,101,114])) with _ | _
       · rcases ha2:(decide (2<z)) with _ | _
         · have HR:=hide (show Sk.fC g l=Sk.fC g (l.drop (k+1)) by rw [HX.out];simp [ha0,ha1,ha2])
           clear HX;go_wp2
           go_roundw
           case rel=>exact ⟨k+1,by omega,by go_num,HR.out,hL⟩
           case measure=>simp [intOf];omega
         · have HR:=hide (show Sk.fC g l=false by rw [HX.out];simp [ha0,ha1,ha2])
           clear HX;go_wp2;go_ret;exact ⟨aN HR.out.symm,hL.bw⟩
       · have HR:=hide (show Sk.fC g l=Sk.fC g (l.drop (k+1)) by rw [HX.out];simp [ha0,ha1])
         clear HX;go_wp2
         go_roundw
         case rel=>exact ⟨k+1,by omega,by go_num,HR.out,hL⟩
         case measure=>simp [intOf];omega
     · have HR:=hide (show Sk.fC g l=false by rw [HX.out];simp [ha0])
       clear HX;go_wp2;go_ret;exact ⟨aN HR.out.symm,hL.bw⟩
   · have HA:=hide (show Sk.fC g l=true by rw [hall.out,List.drop_of_length_le (by omega)];rfl)
     go_wp2;go_ret;exact ⟨aN HA.out.symm,hL.bw⟩
theorem mY {b c:Prop} [Decidable b] [Decidable c] {x y u v:Int} (h:b↔c) (h1:x=u) (h2:y=v):ite b x y=ite c u v:=by
 subst h1 h2
 by_cases hb:b
 · rw [if_pos hb,if_pos (h.1 hb)]
 · rw [if_neg hb,if_neg (fun q=>hb (h.2 q))]
theorem X3 (g:Sk.Game) (h0:Sk.dn g=0) (e:Sk.Entry):Sk.dV g e=if (e.kind.toList == [97,103,97,105,110]) || (e.kind.toList == [102,114,101,101]) || (e.kind.toList == [99,111,110,99,101,100,101]) then (if !e.called.toList.isEmpty || decide (0<(e.hits.length:Int)+(e.aV.length:Int)) || (e.bD != 0) then 1 else 0)
 else if !(e.kind.toList == [115,104,111,116]) then 13
 else if decide (22<(e.hits.length:Int)) || decide (22<(e.aV.length:Int)) then 5
 else if (!e.called.toList.isEmpty && decide (Sk.value e.called<2)) || !Sk.fC g e.hits || !Sk.fC g e.aV || ((g.kind.toList == [115,110,111,111,107,101,114]) && Sk.has e.hits Sk.bQ) then 10
 else if Sk.out e.bD 0 99 then 3
 else if (!e.called.toList.isEmpty && !(g.kind.toList == [115,110,111,111,107,101,114])) || (decide (0<(e.aV.length:Int)) && (g.kind.toList == [99,97,114,111,109])) || (decide (0<e.bD) && !(g.kind.toList == [99,97,114,111,109])) then 1 else 0:=by
 rw [← Sk.UE g h0 e]
 have hc:e.called.toList.isEmpty=decide (e.called=Sk.dH):=by
  by_cases h:e.called=Sk.dH
  · rw [wtE h,decide_eq_true h]
  · rw [wfE h,decide_eq_false h]
 have a1:((0:Int)<(e.hits.length:Int)+(e.aV.length:Int))↔0<e.hits.length+e.aV.length:=by omega
 have a2:((22:Int)<(e.hits.length:Int))↔22<e.hits.length:=by omega
 have a3:((22:Int)<(e.aV.length:Int))↔22<e.aV.length:=by omega
 have a4:((0:Int)<(e.aV.length:Int))↔0<e.aV.length:=by omega
 have hn:(!decide (e.called=Sk.dH))=true↔e.called≠Sk.dH:=by simp
 have hs:(!decide (g.kind=Sk.aW))=true↔g.kind≠Sk.aW:=by simp
 have hm:(!decide (g.kind=Sk.dZ))=true↔g.kind≠Sk.dZ:=by simp
 have nt:∀ b:Bool,(!b)=true↔b=false:=fun b=>by cases b <;> simp
 rw [hc,gG,gG,gG,gG,gG,gG]
 unfold Sk.JC
 refine (mY ?_ (mY ?_ rfl rfl) (mY ?_ rfl (mY ?_ rfl (mY ?_ rfl (mY Iff.rfl rfl (mY ?_ rfl rfl)))))).symm
 · rw [Bool.or_eq_true,Bool.or_eq_true,decide_eq_true_eq,decide_eq_true_eq,decide_eq_true_eq,or_assoc]
 · rw [Bool.or_eq_true,Bool.or_eq_true,hn,decide_eq_true_eq,a1,bne_iff_ne,or_assoc]
 · rw [nt,decide_eq_false_iff_not]
 · rw [Bool.or_eq_true,decide_eq_true_eq,decide_eq_true_eq,a2,a3]
 · rw [Bool.or_eq_true,Bool.or_eq_true,Bool.or_eq_true,Bool.and_eq_true,Bool.and_eq_true,hn,nt,nt,decide_eq_true_eq,decide_eq_true_eq,or_assoc,or_assoc]
 · rw [Bool.or_eq_true,Bool.or_eq_true,Bool.and_eq_true,Bool.and_eq_true,Bool.and_eq_true,hn,decide_eq_true_eq,decide_eq_true_eq,a4,decide_eq_true_eq,or_assoc]
   exact or_congr (and_congr Iff.rfl hs) (or_congr Iff.rfl (and_congr Iff.rfl hm))
theorem AA (S:Nat→Prop) (g:Sk.Game) (h0:Sk.dn g=0) (e:En) (w:World) (he:iW w S e):Calls Tryz.prog 73 #[lZ g,wF e] w fun e_ w'=>e_= .returned (.int .i64 (Sk.dV g e.x))∧Below w.heap.size w w':=by
 have HF:=hide (X3 g h0 e.x);clear h0;obtain ⟨b1,b2,b3⟩:=he.hits.bd;obtain ⟨b4,b5,b6⟩:=he.aV.bd;have tk1:=hide True.intro
 go_enter Tryz.func73,Tryz.ntmps73
 go_upto_region 0 with (fail)
 go_cut [2,3,4] (fun v2 v3 v4 wx=>v2=ptr (w.heap.size)∧v3=ptr (w.heap.size+1)∧v4= .int .i64 0∧Bx w wx [(w.heap.size,bT g,28),(w.heap.size+1,dU e,85)])
 case first=>
  go_wp2;go_meet;exact ⟨rfl,rfl,rfl,Bx.of (((aJ.nil w).new (by simp) (bT g) 28).new (by simp) (dU e) 85) _ rfl⟩
 case rest=>
  obtain ⟨rfl,rfl,rfl,hL⟩:=hcut;have kq0:=(hL.get 1 rfl).cell (j:=0) rfl
  go_upto_block 0 with (fail)
  go_cut [] from 5 to 31 (fun wx=>(((e.x.kind.toList == [97,103,97,105,110]) || (e.x.kind.toList == [102,114,101,101]) || (e.x.kind.toList == [99,111,110,99,101,100,101]))=false∧(e.x.kind.toList == [115,104,111,116])=true)∧Bx w wx [(w.heap.size,bT g,28),(w.heap.size+1,dU e,85)])
  case first=>
   have hw1:IntKind.i64.wrap ((e.x.hits.length:Int)+(e.x.aV.length:Int))=(e.x.hits.length:Int)+(e.x.aV.length:Int):=by rw [IntKind.wrap_i64];omega
   have O5:=(hL.get 1 rfl).cell (j:=1) rfl;have O6:=(hL.get 1 rfl).cell (j:=2) rfl;have VG:=(hL.get 1 rfl).cell (j:=3) rfl;have VH:=(hL.get 1 rfl).cell (j:=4) rfl
   rcases hp0:((e.x.kind.toList == [97,103,97,105,110])) with _ | _
   · rcases hp1:((e.x.kind.toList == [102,114,101,101])) with _ | _
     · rcases hp2:((e.x.kind.toList == [99,111,110,99,101,100,101])) with _ | _
       · rcases hp3:((e.x.kind.toList == [115,104,111,116])) with _ | _
         · have HR:=hide (show (13:Int)=Sk.dV g e.x by rw [HF.out];simp [hp0,hp1,hp2,hp3])
           go_wp2;go_ret;exact ⟨bf HR.out,hL.bw⟩
         · go_wp2
           go_meet;exact ⟨by simp [hp0,hp1,hp2,hp3],hL⟩
       · rcases hp3:(e.x.called.toList.isEmpty) with _ | _
         · have HR:=hide (show (1:Int)=Sk.dV g e.x by rw [HF.out];simp [hp0,hp1,hp2,hp3])
           go_wp2;go_ret;exact ⟨bf HR.out,hL.bw⟩
         · rcases LH:(decide (0<(e.x.hits.length:Int)+(e.x.aV.length:Int))) with _ | _
           · rcases Zw:(e.x.bD != 0) with _ | _
             · have HR:=hide (show (0:Int)=Sk.dV g e.x by rw [HF.out];simp [hp0,hp1,hp2,hp3,LH,Zw])
               go_wp2;go_ret;exact ⟨bf HR.out,hL.bw⟩
             · have HR:=hide (show (1:Int)=Sk.dV g e.x by rw [HF.out];simp [hp0,hp1,hp2,hp3,LH,Zw])
               go_wp2;go_ret;exact ⟨bf HR.out,hL.bw⟩
           · have HR:=hide (show (1:Int)=Sk.dV g e.x by rw [HF.out];simp [hp0,hp1,hp2,hp3,LH])
             go_wp2;go_ret;exact ⟨bf HR.out,hL.bw⟩
     · rcases hp2:(e.x.called.toList.isEmpty) with _ | _
       · have HR:=hide (show (1:Int)=Sk.dV g e.x by rw [HF.out];simp [hp0,hp1,hp2])
         go_wp2;go_ret;exact ⟨bf HR.out,hL.bw⟩
       · rcases hp3:(decide (0<(e.x.hits.length:Int)+(e.x.aV.length:Int))) with _ | _
         · rcases LH:(e.x.bD != 0) with _ | _
           · have HR:=hide (show (0:Int)=Sk.dV g e.x by rw [HF.out];simp [hp0,hp1,hp2,hp3,LH])
             go_wp2;go_ret;exact ⟨bf HR.out,hL.bw⟩
           · have HR:=hide (show (1:Int)=Sk.dV g e.x by rw [HF.out];simp [hp0,hp1,hp2,hp3,LH])
             go_wp2;go_ret;exact ⟨bf HR.out,hL.bw⟩
         · have HR:=hide (show (1:Int)=Sk.dV g e.x by rw [HF.out];simp [hp0,hp1,hp2,hp3])
           go_wp2;go_ret;exact ⟨bf HR.out,hL.bw⟩
   · rcases hp1:(e.x.called.toList.isEmpty) with _ | _
     · have HR:=hide (show (1:Int)=Sk.dV g e.x by rw [HF.out];simp [hp0,hp1])
       go_wp2;go_ret;exact ⟨bf HR.out,hL.bw⟩
     · rcases hp2:(decide (0<(e.x.hits.length:Int)+(e.x.aV.length:Int))) with _ | _
       · rcases hp3:(e.x.bD != 0) with _ | _
         · have HR:=hide (show (0:Int)=Sk.dV g e.x by rw [HF.out];simp [hp0,hp1,hp2,hp3])
           go_wp2;go_ret;exact ⟨bf HR.out,hL.bw⟩
         · have HR:=hide (show (1:Int)=Sk.dV g e.x by rw [HF.out];simp [hp0,hp1,hp2,hp3])
           go_wp2;go_ret;exact ⟨bf HR.out,hL.bw⟩
       · have HR:=hide (show (1:Int)=Sk.dV g e.x by rw [HF.out];simp [hp0,hp1,hp2])
         go_wp2;go_ret;exact ⟨bf HR.out,hL.bw⟩
  case rest=>
   obtain ⟨⟨hk1,hk2⟩,hL⟩:=hcut;have HF1:=hide (show Sk.dV g e.x=if decide (22<(e.x.hits.length:Int)) || decide (22<(e.x.aV.length:Int)) then 5 else if (!e.x.called.toList.isEmpty && decide (Sk.value e.x.called<2)) || !Sk.fC g e.x.hits || !Sk.fC g e.x.aV || ((g.kind.toList == [115,110,111,111,107,101,114]) && Sk.has e.x.hits Sk.bQ) then 10 else if Sk.out e.x.bD 0 99 then 3 else if (!e.x.called.toList.isEmpty && !(g.kind.toList == [115,110,111,111,107,101,114])) || (decide (0<(e.x.aV.length:Int)) && (g.kind.toList == [99,97,114,111,109])) || (decide (0<e.x.bD) && !(g.kind.toList == [99,97,114,111,109])) then 1 else 0 by rw [HF.out,hk1,hk2];rfl);clear HF hk1 hk2;have Uw:=(hL.get 1 rfl).cell (j:=1) rfl;have kx2:=(hL.get 1 rfl).cell (j:=2) rfl;have kx3:=(hL.get 1 rfl).cell (j:=3) rfl
   go_upto_region 10 with (fail)
   go_cut [40] from 31 to 41 (fun v40 wx=>v40= .bool (decide (22<(e.x.hits.length:Int)) || decide (22<(e.x.aV.length:Int)))∧Bx w wx [(w.heap.size,bT g,28),(w.heap.size+1,dU e,85)])
   case first=>
    rcases ha0:(decide (22<(e.x.hits.length:Int))) with _ | _
    · rcases ha1:(decide (22<(e.x.aV.length:Int))) with _ | _
      · go_wp2
        go_meet;exact ⟨congrArg Value.bool (by simp only [ha0,ha1,Bool.or_true,Bool.true_or,Bool.or_false]),hL⟩
      · go_wp2
        go_meet;exact ⟨congrArg Value.bool (by simp only [ha0,ha1,Bool.or_true,Bool.true_or,Bool.or_false]),hL⟩
    · go_wp2
      go_meet;exact ⟨congrArg Value.bool (by simp only [ha0,Bool.or_true,Bool.true_or,Bool.or_false]),hL⟩
   case rest=>
    obtain ⟨rfl,hL⟩:=hcut
    rcases hA:(decide (22<(e.x.hits.length:Int)) || decide (22<(e.x.aV.length:Int))) with _ | _
    rotate_left
    · have HR:=hide (show (5:Int)=Sk.dV g e.x by rw [HF1.out,hA];rfl)
      clear hA;go_wp2;go_ret;exact ⟨bf HR.out,hL.bw⟩
    have HF2:=hide (show Sk.dV g e.x=if (!e.x.called.toList.isEmpty && decide (Sk.value e.x.called<2)) || !Sk.fC g e.x.hits || !Sk.fC g e.x.aV || ((g.kind.toList == [115,110,111,111,107,101,114]) && Sk.has e.x.hits Sk.bQ) then 10 else if Sk.out e.x.bD 0 99 then 3 else if (!e.x.called.toList.isEmpty && !(g.kind.toList == [115,110,111,111,107,101,114])) || (decide (0<(e.x.aV.length:Int)) && (g.kind.toList == [99,97,114,111,109])) || (decide (0<e.x.bD) && !(g.kind.toList == [99,97,114,111,109])) then 1 else 0 by rw [HF1.out,hA];rfl);clear hA HF1 Uw kx2 kx3
    go_upto_region 12 with (fail)
    go_cut [73] from 41 to 74 (fun v73 wx=>v73= .bool ((!e.x.called.toList.isEmpty && decide (Sk.value e.x.called<2)) || !Sk.fC g e.x.hits || !Sk.fC g e.x.aV || ((g.kind.toList == [115,110,111,111,107,101,114]) && Sk.has e.x.hits Sk.bQ))∧Bx w wx [(w.heap.size,bT g,28),(w.heap.size+1,dU e,85)])
    case first=>
     have Uw:=(hL.get 1 rfl).cell (j:=1) rfl;have kx2:=(hL.get 1 rfl).cell (j:=2) rfl;have kx3:=(hL.get 1 rfl).cell (j:=3) rfl;have kxg:=(hL.get 0 rfl).cell (j:=0) rfl
     rcases ha0:(e.x.called.toList.isEmpty) with _ | _
     · rcases ha1:(decide (Sk.value e.x.called<2)) with _ | _
       · rcases ha2:(Sk.fC g e.x.hits) with _ | _
         · go_wp2_with (first | ((with_reducible (refine ah 28 (.tmp 2) ?lx ?_));(case lx=>rfl);refine aK (hL.rng 0 rfl 0 (bT g) rfl) Tryz.underlying28 rfl bY rfl (.tmp 2) rfl rfl ?_) | ((with_reducible (refine ah 28 (.tmp 2) ?lx ?_));(case lx=>rfl);refine fA (hL.rng 0 rfl 0 (bT g) rfl) Tryz.underlying28 rfl bY rfl (.tmp 2) rfl rfl ?_) | ((with_reducible (refine aI 28 (.tmp 2) ?lx ?_));(case lx=>rfl);refine eu (hL.rng 0 rfl 0 (bT g) rfl) Tryz.underlying28 rfl bY (.tmp 2) rfl rfl ?_) | fail | (go_at_call 55;refine (iO _ _).mono ?_;rintro e w4 ⟨rfl,hb4⟩;have hL:=hL.call hb4;have lI:=(hL.get 1 rfl).cell (j:=1) rfl;have lJ:=(hL.get 1 rfl).cell (j:=2) rfl;have lK:=(hL.get 1 rfl).cell (j:=3) rfl;have lH:=(hL.get 0 rfl).cell (j:=0) rfl) | (clear tk1;go_at_call 128;refine (eG S g _ _ _ _ (he.hits.below hL.bw)).mono ?_;rintro e w5 ⟨rfl,hb5⟩;have hL:=hL.call hb5;have lI:=(hL.get 1 rfl).cell (j:=1) rfl;have lJ:=(hL.get 1 rfl).cell (j:=2) rfl;have lK:=(hL.get 1 rfl).cell (j:=3) rfl;have lH:=(hL.get 0 rfl).cell (j:=0) rfl) | (go_at_call 128;refine (eG S g _ _ _ _ (he.aV.below hL.bw)).mono ?_;rintro e w6 ⟨rfl,hb6⟩;have hL:=hL.call hb6;have lI:=(hL.get 1 rfl).cell (j:=1) rfl;have lJ:=(hL.get 1 rfl).cell (j:=2) rfl;have lK:=(hL.get 1 rfl).cell (j:=3) rfl;have lH:=(hL.get 0 rfl).cell (j:=0) rfl) | (go_at_call 129;refine (kU S _ _ _ Sk.bQ _ (he.hits.below hL.bw)).mono ?_;rintro e w7 ⟨rfl,rfl⟩))
           go_meet;exact ⟨congrArg Value.bool (by simp [ha0,ha1,ha2]),hL⟩
         · rcases l7:(Sk.fC g e.x.aV) with _ | _
           · go_wp2_with (first | ((with_reducible (refine ah 28 (.tmp 2) ?lx ?_));(case lx=>rfl);refine aK (hL.rng 0 rfl 0 (bT g) rfl) Tryz.underlying28 rfl bY rfl (.tmp 2) rfl rfl ?_) | ((with_reducible (refine ah 28 (.tmp 2) ?lx ?_));(case lx=>rfl);refine fA (hL.rng 0 rfl 0 (bT g) rfl) Tryz.underlying28 rfl bY rfl (.tmp 2) rfl rfl ?_) | ((with_reducible (refine aI 28 (.tmp 2) ?lx ?_));(case lx=>rfl);refine eu (hL.rng 0 rfl 0 (bT g) rfl) Tryz.underlying28 rfl bY (.tmp 2) rfl rfl ?_) | fail | (go_at_call 55;refine (iO _ _).mono ?_;rintro e w4 ⟨rfl,hb4⟩;have hL:=hL.call hb4;have lI:=(hL.get 1 rfl).cell (j:=1) rfl;have lJ:=(hL.get 1 rfl).cell (j:=2) rfl;have lK:=(hL.get 1 rfl).cell (j:=3) rfl;have lH:=(hL.get 0 rfl).cell (j:=0) rfl) | (clear tk1;go_at_call 128;refine (eG S g _ _ _ _ (he.hits.below hL.bw)).mono ?_;rintro e w5 ⟨rfl,hb5⟩;have hL:=hL.call hb5;have lI:=(hL.get 1 rfl).cell (j:=1) rfl;have lJ:=(hL.get 1 rfl).cell (j:=2) rfl;have lK:=(hL.get 1 rfl).cell (j:=3) rfl;have lH:=(hL.get 0 rfl).cell (j:=0) rfl) | (go_at_call 128;refine (eG S g _ _ _ _ (he.aV.below hL.bw)).mono ?_;rintro e w6 ⟨rfl,hb6⟩;have hL:=hL.call hb6;have lI:=(hL.get 1 rfl).cell (j:=1) rfl;have lJ:=(hL.get 1 rfl).cell (j:=2) rfl;have lK:=(hL.get 1 rfl).cell (j:=3) rfl;have lH:=(hL.get 0 rfl).cell (j:=0) rfl) | (go_at_call 129;refine (kU S _ _ _ Sk.bQ _ (he.hits.below hL.bw)).mono ?_;rintro e w7 ⟨rfl,rfl⟩))
             go_meet;exact ⟨congrArg Value.bool (by simp [ha0,ha1,ha2,l7]),hL⟩
           · rcases wX:((g.kind.toList == [115,110,111,111,107,101,114])) with _ | _
             · go_wp2_with (first | ((with_reducible (refine ah 28 (.tmp 2) ?lx ?_));(case lx=>rfl);refine aK (hL.rng 0 rfl 0 (bT g) rfl) Tryz.underlying28 rfl bY rfl (.tmp 2) rfl rfl ?_) | ((with_reducible (refine ah 28 (.tmp 2) ?lx ?_));(case lx=>rfl);refine fA (hL.rng 0 rfl 0 (bT g) rfl) Tryz.underlying28 rfl bY rfl (.tmp 2) rfl rfl ?_) | ((with_reducible (refine aI 28 (.tmp 2) ?lx ?_));(case lx=>rfl);refine eu (hL.rng 0 rfl 0 (bT g) rfl) Tryz.underlying28 rfl bY (.tmp 2) rfl rfl ?_) | fail | (go_at_call 55;refine (iO _ _).mono ?_;rintro e w4 ⟨rfl,hb4⟩;have hL:=hL.call hb4;have lI:=(hL.get 1 rfl).cell (j:=1) rfl;have lJ:=(hL.get 1 rfl).cell (j:=2) rfl;have lK:=(hL.get 1 rfl).cell (j:=3) rfl;have lH:=(hL.get 0 rfl).cell (j:=0) rfl) | (clear tk1;go_at_call 128;refine (eG S g _ _ _ _ (he.hits.below hL.bw)).mono ?_;rintro e w5 ⟨rfl,hb5⟩;have hL:=hL.call hb5;have lI:=(hL.get 1 rfl).cell (j:=1) rfl;have lJ:=(hL.get 1 rfl).cell (j:=2) rfl;have lK:=(hL.get 1 rfl).cell (j:=3) rfl;have lH:=(hL.get 0 rfl).cell (j:=0) rfl) | (go_at_call 128;refine (eG S g _ _ _ _ (he.aV.below hL.bw)).mono ?_;rintro e w6 ⟨rfl,hb6⟩;have hL:=hL.call hb6;have lI:=(hL.get 1 rfl).cell (j:=1) rfl;have lJ:=(hL.get 1 rfl).cell (j:=2) rfl;have lK:=(hL.get 1 rfl).cell (j:=3) rfl;have lH:=(hL.get 0 rfl).cell (j:=0) rfl) | (go_at_call 129;refine (kU S _ _ _ Sk.bQ _ (he.hits.below hL.bw)).mono ?_;rintro e w7 ⟨rfl,rfl⟩))
               go_meet;exact ⟨congrArg Value.bool (by simp [ha0,ha1,ha2,l7,wX]),hL⟩
             · rcases TQ:(Sk.has e.x.hits Sk.bQ) with _ | _
               · go_wp2_with (first | ((with_reducible (refine ah 28 (.tmp 2) ?lx ?_));(case lx=>rfl);refine aK (hL.rng 0 rfl 0 (bT g) rfl) Tryz.underlying28 rfl bY rfl (.tmp 2) rfl rfl ?_) | ((with_reducible (refine ah 28 (.tmp 2) ?lx ?_));(case lx=>rfl);refine fA (hL.rng 0 rfl 0 (bT g) rfl) Tryz.underlying28 rfl bY rfl (.tmp 2) rfl rfl ?_) | ((with_reducible (refine aI 28 (.tmp 2) ?lx ?_));(case lx=>rfl);refine eu (hL.rng 0 rfl 0 (bT g) rfl) Tryz.underlying28 rfl bY (.tmp 2) rfl rfl ?_) | fail | (go_at_call 55;refine (iO _ _).mono ?_;rintro e w4 ⟨rfl,hb4⟩;have hL:=hL.call hb4;have lI:=(hL.get 1 rfl).cell (j:=1) rfl;have lJ:=(hL.get 1 rfl).cell (j:=2) rfl;have lK:=(hL.get 1 rfl).cell (j:=3) rfl;have lH:=(hL.get 0 rfl).cell (j:=0) rfl) | (clear tk1;go_at_call 128;refine (eG S g _ _ _ _ (he.hits.below hL.bw)).mono ?_;rintro e w5 ⟨rfl,hb5⟩;have hL:=hL.call hb5;have lI:=(hL.get 1 rfl).cell (j:=1) rfl;have lJ:=(hL.get 1 rfl).cell (j:=2) rfl;have lK:=(hL.get 1 rfl).cell (j:=3) rfl;have lH:=(hL.get 0 rfl).cell (j:=0) rfl) | (go_at_call 128;refine (eG S g _ _ _ _ (he.aV.below hL.bw)).mono ?_;rintro e w6 ⟨rfl,hb6⟩;have hL:=hL.call hb6;have lI:=(hL.get 1 rfl).cell (j:=1) rfl;have lJ:=(hL.get 1 rfl).cell (j:=2) rfl;have lK:=(hL.get 1 rfl).cell (j:=3) rfl;have lH:=(hL.get 0 rfl).cell (j:=0) rfl) | (go_at_call 129;refine (kU S _ _ _ Sk.bQ _ (he.hits.below hL.bw)).mono ?_;rintro e w7 ⟨rfl,rfl⟩))
                 go_meet;exact ⟨congrArg Value.bool (by simp [ha0,ha1,ha2,l7,wX,TQ]),hL⟩
               · go_wp2_with (first | ((with_reducible (refine ah 28 (.tmp 2) ?lx ?_));(case lx=>rfl);refine aK (hL.rng 0 rfl 0 (bT g) rfl) Tryz.underlying28 rfl bY rfl (.tmp 2) rfl rfl ?_) | ((with_reducible (refine ah 28 (.tmp 2) ?lx ?_));(case lx=>rfl);refine fA (hL.rng 0 rfl 0 (bT g) rfl) Tryz.underlying28 rfl bY rfl (.tmp 2) rfl rfl ?_) | ((with_reducible (refine aI 28 (.tmp 2) ?lx ?_));(case lx=>rfl);refine eu (hL.rng 0 rfl 0 (bT g) rfl) Tryz.underlying28 rfl bY (.tmp 2) rfl rfl ?_) | fail | (go_at_call 55;refine (iO _ _).mono ?_;rintro e w4 ⟨rfl,hb4⟩;have hL:=hL.call hb4;have lI:=(hL.get 1 rfl).cell (j:=1) rfl;have lJ:=(hL.get 1 rfl).cell (j:=2) rfl;have lK:=(hL.get 1 rfl).cell (j:=3) rfl;have lH:=(hL.get 0 rfl).cell (j:=0) rfl) | (clear tk1;go_at_call 128;refine (eG S g _ _ _ _ (he.hits.below hL.bw)).mono ?_;rintro e w5 ⟨rfl,hb5⟩;have hL:=hL.call hb5;have lI:=(hL.get 1 rfl).cell (j:=1) rfl;have lJ:=(hL.get 1 rfl).cell (j:=2) rfl;have lK:=(hL.get 1 rfl).cell (j:=3) rfl;have lH:=(hL.get 0 rfl).cell (j:=0) rfl) | (go_at_call 128;refine (eG S g _ _ _ _ (he.aV.below hL.bw)).mono ?_;rintro e w6 ⟨rfl,hb6⟩;have hL:=hL.call hb6;have lI:=(hL.get 1 rfl).cell (j:=1) rfl;have lJ:=(hL.get 1 rfl).cell (j:=2) rfl;have lK:=(hL.get 1 rfl).cell (j:=3) rfl;have lH:=(hL.get 0 rfl).cell (j:=0) rfl) | (go_at_call 129;refine (kU S _ _ _ Sk.bQ _ (he.hits.below hL.bw)).mono ?_;rintro e w7 ⟨rfl,rfl⟩))
                 go_meet;exact ⟨congrArg Value.bool (by simp [ha0,ha1,ha2,l7,wX,TQ]),hL⟩
       · go_wp2_with (first | ((with_reducible (refine ah 28 (.tmp 2) ?lx ?_));(case lx=>rfl);refine aK (hL.rng 0 rfl 0 (bT g) rfl) Tryz.underlying28 rfl bY rfl (.tmp 2) rfl rfl ?_) | ((with_reducible (refine ah 28 (.tmp 2) ?lx ?_));(case lx=>rfl);refine fA (hL.rng 0 rfl 0 (bT g) rfl) Tryz.underlying28 rfl bY rfl (.tmp 2) rfl rfl ?_) | ((with_reducible (refine aI 28 (.tmp 2) ?lx ?_));(case lx=>rfl);refine eu (hL.rng 0 rfl 0 (bT g) rfl) Tryz.underlying28 rfl bY (.tmp 2) rfl rfl ?_) | fail | (go_at_call 55;refine (iO _ _).mono ?_;rintro e w4 ⟨rfl,hb4⟩;have hL:=hL.call hb4;have lI:=(hL.get 1 rfl).cell (j:=1) rfl;have lJ:=(hL.get 1 rfl).cell (j:=2) rfl;have lK:=(hL.get 1 rfl).cell (j:=3) rfl;have lH:=(hL.get 0 rfl).cell (j:=0) rfl) | (clear tk1;go_at_call 128;refine (eG S g _ _ _ _ (he.hits.below hL.bw)).mono ?_;rintro e w5 ⟨rfl,hb5⟩;have hL:=hL.call hb5;have lI:=(hL.get 1 rfl).cell (j:=1) rfl;have lJ:=(hL.get 1 rfl).cell (j:=2) rfl;have lK:=(hL.get 1 rfl).cell (j:=3) rfl;have lH:=(hL.get 0 rfl).cell (j:=0) rfl) | (go_at_call 128;refine (eG S g _ _ _ _ (he.aV.below hL.bw)).mono ?_;rintro e w6 ⟨rfl,hb6⟩;have hL:=hL.call hb6;have lI:=(hL.get 1 rfl).cell (j:=1) rfl;have lJ:=(hL.get 1 rfl).cell (j:=2) rfl;have lK:=(hL.get 1 rfl).cell (j:=3) rfl;have lH:=(hL.get 0 rfl).cell (j:=0) rfl) | (go_at_call 129;refine (kU S _ _ _ Sk.bQ _ (he.hits.below hL.bw)).mono ?_;rintro e w7 ⟨rfl,rfl⟩))
         go_meet;exact ⟨congrArg Value.bool (by simp [ha0,ha1]),hL⟩
     · rcases ha1:(Sk.fC g e.x.hits) with _ | _
       · go_wp2_with (first | ((with_reducible (refine ah 28 (.tmp 2) ?lx ?_));(case lx=>rfl);refine aK (hL.rng 0 rfl 0 (bT g) rfl) Tryz.underlying28 rfl bY rfl (.tmp 2) rfl rfl ?_) | ((with_reducible (refine ah 28 (.tmp 2) ?lx ?_));(case lx=>rfl);refine fA (hL.rng 0 rfl 0 (bT g) rfl) Tryz.underlying28 rfl bY rfl (.tmp 2) rfl rfl ?_) | ((with_reducible (refine aI 28 (.tmp 2) ?lx ?_));(case lx=>rfl);refine eu (hL.rng 0 rfl 0 (bT g) rfl) Tryz.underlying28 rfl bY (.tmp 2) rfl rfl ?_) | fail | (go_at_call 55;refine (iO _ _).mono ?_;rintro e w4 ⟨rfl,hb4⟩;have hL:=hL.call hb4;have lI:=(hL.get 1 rfl).cell (j:=1) rfl;have lJ:=(hL.get 1 rfl).cell (j:=2) rfl;have lK:=(hL.get 1 rfl).cell (j:=3) rfl;have lH:=(hL.get 0 rfl).cell (j:=0) rfl) | (clear tk1;go_at_call 128;refine (eG S g _ _ _ _ (he.hits.below hL.bw)).mono ?_;rintro e w5 ⟨rfl,hb5⟩;have hL:=hL.call hb5;have lI:=(hL.get 1 rfl).cell (j:=1) rfl;have lJ:=(hL.get 1 rfl).cell (j:=2) rfl;have lK:=(hL.get 1 rfl).cell (j:=3) rfl;have lH:=(hL.get 0 rfl).cell (j:=0) rfl) | (go_at_call 128;refine (eG S g _ _ _ _ (he.aV.below hL.bw)).mono ?_;rintro e w6 ⟨rfl,hb6⟩;have hL:=hL.call hb6;have lI:=(hL.get 1 rfl).cell (j:=1) rfl;have lJ:=(hL.get 1 rfl).cell (j:=2) rfl;have lK:=(hL.get 1 rfl).cell (j:=3) rfl;have lH:=(hL.get 0 rfl).cell (j:=0) rfl) | (go_at_call 129;refine (kU S _ _ _ Sk.bQ _ (he.hits.below hL.bw)).mono ?_;rintro e w7 ⟨rfl,rfl⟩))
         go_meet;exact ⟨congrArg Value.bool (by simp [ha0,ha1]),hL⟩
       · rcases ha2:(Sk.fC g e.x.aV) with _ | _
         · go_wp2_with (first | ((with_reducible (refine ah 28 (.tmp 2) ?lx ?_));(case lx=>rfl);refine aK (hL.rng 0 rfl 0 (bT g) rfl) Tryz.underlying28 rfl bY rfl (.tmp 2) rfl rfl ?_) | ((with_reducible (refine ah 28 (.tmp 2) ?lx ?_));(case lx=>rfl);refine fA (hL.rng 0 rfl 0 (bT g) rfl) Tryz.underlying28 rfl bY rfl (.tmp 2) rfl rfl ?_) | ((with_reducible (refine aI 28 (.tmp 2) ?lx ?_));(case lx=>rfl);refine eu (hL.rng 0 rfl 0 (bT g) rfl) Tryz.underlying28 rfl bY (.tmp 2) rfl rfl ?_) | fail | (go_at_call 55;refine (iO _ _).mono ?_;rintro e w4 ⟨rfl,hb4⟩;have hL:=hL.call hb4;have lI:=(hL.get 1 rfl).cell (j:=1) rfl;have lJ:=(hL.get 1 rfl).cell (j:=2) rfl;have lK:=(hL.get 1 rfl).cell (j:=3) rfl;have lH:=(hL.get 0 rfl).cell (j:=0) rfl) | (clear tk1;go_at_call 128;refine (eG S g _ _ _ _ (he.hits.below hL.bw)).mono ?_;rintro e w5 ⟨rfl,hb5⟩;have hL:=hL.call hb5;have lI:=(hL.get 1 rfl).cell (j:=1) rfl;have lJ:=(hL.get 1 rfl).cell (j:=2) rfl;have lK:=(hL.get 1 rfl).cell (j:=3) rfl;have lH:=(hL.get 0 rfl).cell (j:=0) rfl) | (go_at_call 128;refine (eG S g _ _ _ _ (he.aV.below hL.bw)).mono ?_;rintro e w6 ⟨rfl,hb6⟩;have hL:=hL.call hb6;have lI:=(hL.get 1 rfl).cell (j:=1) rfl;have lJ:=(hL.get 1 rfl).cell (j:=2) rfl;have lK:=(hL.get 1 rfl).cell (j:=3) rfl;have lH:=(hL.get 0 rfl).cell (j:=0) rfl) | (go_at_call 129;refine (kU S _ _ _ Sk.bQ _ (he.hits.below hL.bw)).mono ?_;rintro e w7 ⟨rfl,rfl⟩))
           go_meet;exact ⟨congrArg Value.bool (by simp [ha0,ha1,ha2]),hL⟩
         · rcases l7:((g.kind.toList == [115,110,111,111,107,101,114])) with _ | _
           · go_wp2_with (first | ((with_reducible (refine ah 28 (.tmp 2) ?lx ?_));(case lx=>rfl);refine aK (hL.rng 0 rfl 0 (bT g) rfl) Tryz.underlying28 rfl bY rfl (.tmp 2) rfl rfl ?_) | ((with_reducible (refine ah 28 (.tmp 2) ?lx ?_));(case lx=>rfl);refine fA (hL.rng 0 rfl 0 (bT g) rfl) Tryz.underlying28 rfl bY rfl (.tmp 2) rfl rfl ?_) | ((with_reducible (refine aI 28 (.tmp 2) ?lx ?_));(case lx=>rfl);refine eu (hL.rng 0 rfl 0 (bT g) rfl) Tryz.underlying28 rfl bY (.tmp 2) rfl rfl ?_) | fail | (go_at_call 55;refine (iO _ _).mono ?_;rintro e w4 ⟨rfl,hb4⟩;have hL:=hL.call hb4;have lI:=(hL.get 1 rfl).cell (j:=1) rfl;have lJ:=(hL.get 1 rfl).cell (j:=2) rfl;have lK:=(hL.get 1 rfl).cell (j:=3) rfl;have lH:=(hL.get 0 rfl).cell (j:=0) rfl) | (clear tk1;go_at_call 128;refine (eG S g _ _ _ _ (he.hits.below hL.bw)).mono ?_;rintro e w5 ⟨rfl,hb5⟩;have hL:=hL.call hb5;have lI:=(hL.get 1 rfl).cell (j:=1) rfl;have lJ:=(hL.get 1 rfl).cell (j:=2) rfl;have lK:=(hL.get 1 rfl).cell (j:=3) rfl;have lH:=(hL.get 0 rfl).cell (j:=0) rfl) | (go_at_call 128;refine (eG S g _ _ _ _ (he.aV.below hL.bw)).mono ?_;rintro e w6 ⟨rfl,hb6⟩;have hL:=hL.call hb6;have lI:=(hL.get 1 rfl).cell (j:=1) rfl;have lJ:=(hL.get 1 rfl).cell (j:=2) rfl;have lK:=(hL.get 1 rfl).cell (j:=3) rfl;have lH:=(hL.get 0 rfl).cell (j:=0) rfl) | (go_at_call 129;refine (kU S _ _ _ Sk.bQ _ (he.hits.below hL.bw)).mono ?_;rintro e w7 ⟨rfl,rfl⟩))
             go_meet;exact ⟨congrArg Value.bool (by simp [ha0,ha1,ha2,l7]),hL⟩
           · rcases wX:(Sk.has e.x.hits Sk.bQ) with _ | _
             · go_wp2_with (first | ((with_reducible (refine ah 28 (.tmp 2) ?lx ?_));(case lx=>rfl);refine aK (hL.rng 0 rfl 0 (bT g) rfl) Tryz.underlying28 rfl bY rfl (.tmp 2) rfl rfl ?_) | ((with_reducible (refine ah 28 (.tmp 2) ?lx ?_));(case lx=>rfl);refine fA (hL.rng 0 rfl 0 (bT g) rfl) Tryz.underlying28 rfl bY rfl (.tmp 2) rfl rfl ?_) | ((with_reducible (refine aI 28 (.tmp 2) ?lx ?_));(case lx=>rfl);refine eu (hL.rng 0 rfl 0 (bT g) rfl) Tryz.underlying28 rfl bY (.tmp 2) rfl rfl ?_) | fail | (go_at_call 55;refine (iO _ _).mono ?_;rintro e w4 ⟨rfl,hb4⟩;have hL:=hL.call hb4;have lI:=(hL.get 1 rfl).cell (j:=1) rfl;have lJ:=(hL.get 1 rfl).cell (j:=2) rfl;have lK:=(hL.get 1 rfl).cell (j:=3) rfl;have lH:=(hL.get 0 rfl).cell (j:=0) rfl) | (clear tk1;go_at_call 128;refine (eG S g _ _ _ _ (he.hits.below hL.bw)).mono ?_;rintro e w5 ⟨rfl,hb5⟩;have hL:=hL.call hb5;have lI:=(hL.get 1 rfl).cell (j:=1) rfl;have lJ:=(hL.get 1 rfl).cell (j:=2) rfl;have lK:=(hL.get 1 rfl).cell (j:=3) rfl;have lH:=(hL.get 0 rfl).cell (j:=0) rfl) | (go_at_call 128;refine (eG S g _ _ _ _ (he.aV.below hL.bw)).mono ?_;rintro e w6 ⟨rfl,hb6⟩;have hL:=hL.call hb6;have lI:=(hL.get 1 rfl).cell (j:=1) rfl;have lJ:=(hL.get 1 rfl).cell (j:=2) rfl;have lK:=(hL.get 1 rfl).cell (j:=3) rfl;have lH:=(hL.get 0 rfl).cell (j:=0) rfl) | (go_at_call 129;refine (kU S _ _ _ Sk.bQ _ (he.hits.below hL.bw)).mono ?_;rintro e w7 ⟨rfl,rfl⟩))
               go_meet;exact ⟨congrArg Value.bool (by simp [ha0,ha1,ha2,l7,wX]),hL⟩
             · go_wp2_with (first | ((with_reducible (refine ah 28 (.tmp 2) ?lx ?_));(case lx=>rfl);refine aK (hL.rng 0 rfl 0 (bT g) rfl) Tryz.underlying28 rfl bY rfl (.tmp 2) rfl rfl ?_) | ((with_reducible (refine ah 28 (.tmp 2) ?lx ?_));(case lx=>rfl);refine fA (hL.rng 0 rfl 0 (bT g) rfl) Tryz.underlying28 rfl bY rfl (.tmp 2) rfl rfl ?_) | ((with_reducible (refine aI 28 (.tmp 2) ?lx ?_));(case lx=>rfl);refine eu (hL.rng 0 rfl 0 (bT g) rfl) Tryz.underlying28 rfl bY (.tmp 2) rfl rfl ?_) | fail | (go_at_call 55;refine (iO _ _).mono ?_;rintro e w4 ⟨rfl,hb4⟩;have hL:=hL.call hb4;have lI:=(hL.get 1 rfl).cell (j:=1) rfl;have lJ:=(hL.get 1 rfl).cell (j:=2) rfl;have lK:=(hL.get 1 rfl).cell (j:=3) rfl;have lH:=(hL.get 0 rfl).cell (j:=0) rfl) | (clear tk1;go_at_call 128;refine (eG S g _ _ _ _ (he.hits.below hL.bw)).mono ?_;rintro e w5 ⟨rfl,hb5⟩;have hL:=hL.call hb5;have lI:=(hL.get 1 rfl).cell (j:=1) rfl;have lJ:=(hL.get 1 rfl).cell (j:=2) rfl;have lK:=(hL.get 1 rfl).cell (j:=3) rfl;have lH:=(hL.get 0 rfl).cell (j:=0) rfl) | (go_at_call 128;refine (eG S g _ _ _ _ (he.aV.below hL.bw)).mono ?_;rintro e w6 ⟨rfl,hb6⟩;have hL:=hL.call hb6;have lI:=(hL.get 1 rfl).cell (j:=1) rfl;have lJ:=(hL.get 1 rfl).cell (j:=2) rfl;have lK:=(hL.get 1 rfl).cell (j:=3) rfl;have lH:=(hL.get 0 rfl).cell (j:=0) rfl) | (go_at_call 129;refine (kU S _ _ _ Sk.bQ _ (he.hits.below hL.bw)).mono ?_;rintro e w7 ⟨rfl,rfl⟩))
               go_meet;exact ⟨congrArg Value.bool (by simp [ha0,ha1,ha2,l7,wX]),hL⟩
    case rest=>
     obtain ⟨rfl,hL⟩:=hcut
     rcases hA:((!e.x.called.toList.isEmpty && decide (Sk.value e.x.called<2)) || !Sk.fC g e.x.hits || !Sk.fC g e.x.aV || ((g.kind.toList == [115,110,111,111,107,101,114]) && Sk.has e.x.hits Sk.bQ)) with _ | _
     rotate_left
     · have HR:=hide (show (10:Int)=Sk.dV g e.x by rw [HF2.out,hA];rfl)
       clear hA;go_wp2;go_ret;exact ⟨bf HR.out,hL.bw⟩
     have HF3:=hide (show Sk.dV g e.x=if Sk.out e.x.bD 0 99 then 3 else if (!e.x.called.toList.isEmpty && !(g.kind.toList == [115,110,111,111,107,101,114])) || (decide (0<(e.x.aV.length:Int)) && (g.kind.toList == [99,97,114,111,109])) || (decide (0<e.x.bD) && !(g.kind.toList == [99,97,114,111,109])) then 1 else 0 by rw [HF2.out,hA];rfl);clear hA HF2;have kx4:=(hL.get 1 rfl).cell (j:=4) rfl
     rcases hA:Sk.out e.x.bD 0 99 with _ | _
     rotate_left
     · have HR:=hide (show (3:Int)=Sk.dV g e.x by rw [HF3.out,hA];rfl)
       go_wp2_with (go_at_call 69;refine (jo _ _ _ _).mono ?_;rintro e w8 ⟨rfl,rfl⟩)
       go_ret;exact ⟨bf HR.out,hL.bw⟩
     have JR:=hide (show Sk.dV g e.x=if (!e.x.called.toList.isEmpty && !(g.kind.toList == [115,110,111,111,107,101,114])) || (decide (0<(e.x.aV.length:Int)) && (g.kind.toList == [99,97,114,111,109])) || (decide (0<e.x.bD) && !(g.kind.toList == [99,97,114,111,109])) then 1 else 0 by rw [HF3.out,hA];rfl)
     go_upto_region 16 with (go_at_call 69;refine (jo _ _ _ _).mono ?_;rintro e w8 ⟨rfl,rfl⟩)
     clear hA HF3
     go_cut [105] from 74 to 106 (fun v105 wx=>v105= .bool ((!e.x.called.toList.isEmpty && !(g.kind.toList == [115,110,111,111,107,101,114])) || (decide (0<(e.x.aV.length:Int)) && (g.kind.toList == [99,97,114,111,109])) || (decide (0<e.x.bD) && !(g.kind.toList == [99,97,114,111,109])))∧Bx w wx [(w.heap.size,bT g,28),(w.heap.size+1,dU e,85)])
     case first=>
      have Uw:=(hL.get 1 rfl).cell (j:=1) rfl;have kx3:=(hL.get 1 rfl).cell (j:=3) rfl;have kg:=(hL.get 0 rfl).cell (j:=0) rfl
      rcases ha0:(e.x.called.toList.isEmpty) with _ | _
      · rcases ha1:((g.kind.toList == [115,110,111,111,107,101,114])) with _ | _
        · go_wp2
          go_meet;exact ⟨congrArg Value.bool (by simp only [ha0,ha1];rfl),hL⟩
        · rcases ha2:(decide (0<(e.x.aV.length:Int))) with _ | _
          · rcases l7:(decide (0<e.x.bD)) with _ | _
            · have hq:=(show decide (0<e.x.aV.length)=false by simpa using ha2)
              go_wp2;go_meet;exact ⟨congrArg Value.bool (by simp only [ha0,ha1,ha2,l7];rfl),hL⟩
            · rcases wX:((g.kind.toList == [99,97,114,111,109])) with _ | _
              · have hq:=(show decide (0<e.x.aV.length)=false by simpa using ha2)
                go_wp2;go_meet;exact ⟨congrArg Value.bool (by simp only [ha0,ha1,ha2,l7,wX];rfl),hL⟩
              · have hq:=(show decide (0<e.x.aV.length)=false by simpa using ha2)
                go_wp2;go_meet;exact ⟨congrArg Value.bool (by simp only [ha0,ha1,ha2,l7,wX];rfl),hL⟩
          · rcases l7:((g.kind.toList == [99,97,114,111,109])) with _ | _
            · rcases wX:(decide (0<e.x.bD)) with _ | _
              · have hq:=(show decide (0<e.x.aV.length)=true by simpa using ha2)
                go_wp2;go_meet;exact ⟨congrArg Value.bool (by simp only [ha0,ha1,ha2,l7,wX];rfl),hL⟩
              · have hq:=(show decide (0<e.x.aV.length)=true by simpa using ha2)
                go_wp2;go_meet;exact ⟨congrArg Value.bool (by simp only [ha0,ha1,ha2,l7,wX];rfl),hL⟩
            · have hq:=(show decide (0<e.x.aV.length)=true by simpa using ha2)
              go_wp2;go_meet;exact ⟨congrArg Value.bool (by simp only [ha0,ha1,ha2,l7];rfl),hL⟩
      · rcases ha1:(decide (0<(e.x.aV.length:Int))) with _ | _
        · rcases ha2:(decide (0<e.x.bD)) with _ | _
          · have hq:=(show decide (0<e.x.aV.length)=false by simpa using ha1)
            go_wp2;go_meet;exact ⟨congrArg Value.bool (by simp only [ha0,ha1,ha2];rfl),hL⟩
          · rcases l7:((g.kind.toList == [99,97,114,111,109])) with _ | _
            · have hq:=(show decide (0<e.x.aV.length)=false by simpa using ha1)
              go_wp2;go_meet;exact ⟨congrArg Value.bool (by simp only [ha0,ha1,ha2,l7];rfl),hL⟩
            · have hq:=(show decide (0<e.x.aV.length)=false by simpa using ha1)
              go_wp2;go_meet;exact ⟨congrArg Value.bool (by simp only [ha0,ha1,ha2,l7];rfl),hL⟩
        · rcases ha2:((g.kind.toList == [99,97,114,111,109])) with _ | _
          · rcases l7:(decide (0<e.x.bD)) with _ | _
            · have hq:=(show decide (0<e.x.aV.length)=true by simpa using ha1)
              go_wp2;go_meet;exact ⟨congrArg Value.bool (by simp only [ha0,ha1,ha2,l7];rfl),hL⟩
            · have hq:=(show decide (0<e.x.aV.length)=true by simpa using ha1)
              go_wp2;go_meet;exact ⟨congrArg Value.bool (by simp only [ha0,ha1,ha2,l7];rfl),hL⟩
          · have hq:=(show decide (0<e.x.aV.length)=true by simpa using ha1)
            go_wp2;go_meet;exact ⟨congrArg Value.bool (by simp only [ha0,ha1,ha2];rfl),hL⟩
     case rest=>
      obtain ⟨rfl,hL⟩:=hcut
      rcases hA:((!e.x.called.toList.isEmpty && !(g.kind.toList == [115,110,111,111,107,101,114])) || (decide (0<(e.x.aV.length:Int)) && (g.kind.toList == [99,97,114,111,109])) || (decide (0<e.x.bD) && !(g.kind.toList == [99,97,114,111,109]))) with _ | _
      · have HR:=hide (show (0:Int)=Sk.dV g e.x by rw [JR.out,hA];rfl)
        clear hA;go_wp2;go_ret;exact ⟨bf HR.out,hL.bw⟩
      · have HR:=hide (show (1:Int)=Sk.dV g e.x by rw [JR.out,hA];rfl)
        clear hA;go_wp2;go_ret;exact ⟨bf HR.out,hL.bw⟩
theorem EH (S:Nat→Prop) (g:Sk.Game) (e:En) (w:World) (he:iW w S e):Calls Tryz.prog 47 #[lZ g,wF e] w fun e_ w'=>e_= .returned (.int .i64 (Sk.wL g e.x))∧Below w.heap.size w w':=by
 go_enter Tryz.func47,Tryz.ntmps47
 go_upto_region 0 with (fail)
 go_cut [2,3,4] (fun v2 v3 v4 wx=>v2=ptr (w.heap.size)∧v3=ptr (w.heap.size+1)∧v4= .int .i64 0∧Bx w wx [(w.heap.size,bT g,28),(w.heap.size+1,dU e,85)])
 case first=>
  go_wp2;go_meet;exact ⟨rfl,rfl,rfl,Bx.of (((aJ.nil w).new (by simp) (bT g) 28).new (by simp) (dU e) 85) _ rfl⟩
 case rest=>
  obtain ⟨rfl,rfl,rfl,hL⟩:=hcut
  go_upto_region 2 with (first | ((with_reducible (refine ah 28 (.tmp 2) ?lx ?_));(case lx=>rfl);refine aK (hL.rng 0 rfl 0 (bT g) rfl) Tryz.underlying28 rfl bY rfl (.tmp 2) rfl rfl ?_) | ((with_reducible (refine ah 28 (.tmp 2) ?lx ?_));(case lx=>rfl);refine fA (hL.rng 0 rfl 0 (bT g) rfl) Tryz.underlying28 rfl bY rfl (.tmp 2) rfl rfl ?_) | ((with_reducible (refine aI 28 (.tmp 2) ?lx ?_));(case lx=>rfl);refine eu (hL.rng 0 rfl 0 (bT g) rfl) Tryz.underlying28 rfl bY (.tmp 2) rfl rfl ?_) | (go_at_call 17;refine (pV g _).mono ?_;rintro e w5 ⟨rfl,hb5⟩;have hL:=hL.call hb5))
  obtain ⟨n,hn⟩:∃ q,Sk.dn g=q:=⟨_,rfl⟩
  rcases hz:(n != 0) with _ | _
  rotate_left
  · have HR:=hide (show n=Sk.wL g e.x by unfold Sk.wL;rw [hn,if_pos (by simpa using hz)])
    have hz2:(n == 0)=false:=by simpa using hz
    rw [hn];clear hn;go_wp2;go_ret;exact ⟨bf HR.out,hL.bw⟩
  · have hz1:n=0:=by simpa using hz
    subst hz1;have HZ:=hide hn;have pq:=hide (show Sk.wL g e.x=Sk.dV g e.x by unfold Sk.wL;rw [if_neg (by simp [hn])]);rw [hn];clear hn hz
    go_wp2_with (first | ((with_reducible (refine ah 28 (.tmp 2) ?lx ?_));(case lx=>rfl);refine aK (hL.rng 0 rfl 0 (bT g) rfl) Tryz.underlying28 rfl bY rfl (.tmp 2) rfl rfl ?_) | ((with_reducible (refine ah 28 (.tmp 2) ?lx ?_));(case lx=>rfl);refine fA (hL.rng 0 rfl 0 (bT g) rfl) Tryz.underlying28 rfl bY rfl (.tmp 2) rfl rfl ?_) | ((with_reducible (refine aI 28 (.tmp 2) ?lx ?_));(case lx=>rfl);refine eu (hL.rng 0 rfl 0 (bT g) rfl) Tryz.underlying28 rfl bY (.tmp 2) rfl rfl ?_) | ((with_reducible (refine ah 85 (.tmp 3) ?lx ?_));(case lx=>rfl);refine aK (hL.rng 1 rfl 0 (dU e) rfl) Tryz.underlying85 rfl xA rfl (.tmp 3) rfl rfl ?_) | ((with_reducible (refine ah 85 (.tmp 3) ?lx ?_));(case lx=>rfl);refine fA (hL.rng 1 rfl 0 (dU e) rfl) Tryz.underlying85 rfl xA rfl (.tmp 3) rfl rfl ?_) | ((with_reducible (refine aI 85 (.tmp 3) ?lx ?_));(case lx=>rfl);refine eu (hL.rng 1 rfl 0 (dU e) rfl) Tryz.underlying85 rfl xA (.tmp 3) rfl rfl ?_) | (go_at_call 73;refine (AA S g HZ.out e _ (he.below hL.bw)).mono ?_;rintro e w6 ⟨rfl,hb6⟩;have hL:=hL.call hb6))
    go_ret;exact ⟨bf pq.out.symm,hL.bw⟩
theorem JD (S:Nat→Prop) (g:Sk.Game) (l:List En) (A:Option Addr) (c:Nat) (w:World) (hl:qh w S A c l):Calls Tryz.prog 21 #[lZ g,.slice A l.length c] w fun e_ w'=>e_= .returned (.int .i64 (Sk.iq g (bare l)))∧Below w.heap.size w w':=by
 obtain ⟨b1,b2,b3⟩:=hl.bd
 go_enter Tryz.func21,Tryz.ntmps21
 go_upto_region 0 with (fail)
 go_cut [2,4] (fun v2 v4 wx=>v2=ptr (w.heap.size)∧v4= .int .i64 0∧Bx w wx [(w.heap.size,bT g,28)])
 case first=>
  go_wp2;go_meet;exact ⟨rfl,rfl,Bx.of ((aJ.nil w).new (by simp) (bT g) 28) _ rfl⟩
 case rest=>
  obtain ⟨rfl,rfl,hL⟩:=hcut
  go_upto_region 2 with (first | ((with_reducible (refine ah 28 (.tmp 2) ?lx ?_));(case lx=>rfl);refine aK (hL.rng 0 rfl 0 (bT g) rfl) Tryz.underlying28 rfl bY rfl (.tmp 2) rfl rfl ?_) | ((with_reducible (refine ah 28 (.tmp 2) ?lx ?_));(case lx=>rfl);refine fA (hL.rng 0 rfl 0 (bT g) rfl) Tryz.underlying28 rfl bY rfl (.tmp 2) rfl rfl ?_) | ((with_reducible (refine aI 28 (.tmp 2) ?lx ?_));(case lx=>rfl);refine eu (hL.rng 0 rfl 0 (bT g) rfl) Tryz.underlying28 rfl bY (.tmp 2) rfl rfl ?_) | (go_at_call 17;refine (pV g _).mono ?_;rintro e w5 ⟨rfl,hb5⟩;have hL:=hL.call hb5))
  obtain ⟨n,hn⟩:∃ q,Sk.dn g=q:=⟨_,rfl⟩
  rcases hz:(n != 0) with _ | _
  rotate_left
  · have HR:=hide (show n=Sk.iq g (bare l) by unfold Sk.iq;rw [hn,if_pos (by simpa using hz)])
    have hz2:(n == 0)=false:=by simpa using hz
    rw [hn];clear hn hz2;go_wp2;go_ret;exact ⟨bf HR.out,hL.bw⟩
  · have hz1:n=0:=by simpa using hz
    subst hz1;have HZ:=hide hn;have pq:=hide (show Sk.iq g (bare l)=if 1000<l.length then 5 else Sk.lu g (bare l) by unfold Sk.iq;rw [if_neg (by simp [hn]),kQ]);rw [hn];clear hn hz
    by_cases hlen:1000<l.length
    · have hd:decide (1000<(l.length:Int))=true:=decide_eq_true (by omega)
      have HR:=hide (show (5:Int)=Sk.iq g (bare l) by rw [pq.out,if_pos hlen]);clear hlen pq;go_wp2;go_ret;exact ⟨bf HR.out,hL.bw⟩
    have hd:decide (1000<(l.length:Int))=false:=decide_eq_false (by omega);have HR:=hide (show Sk.iq g (bare l)=Sk.lu g (bare l) by rw [pq.out,if_neg hlen]);clear pq hlen
    go_upto_region 6 with (fail)
    go_wp2
    go_loopw [5,6] (fun v i wr=>∃ k:Nat,k≤l.length∧v= .int .i64 0∧i= .int .i64 k∧Aside (Sk.lu g (bare l)=Sk.lu g (bare (l.drop k)))∧Bx w wr [(w.heap.size,bT g,28)]) (fun _ i _=>l.length - (intOf i).toNat)
    case atStart=>exact ⟨0,Nat.zero_le _,rfl,rfl,by simp [Aside],hL⟩
    case round=>
     obtain ⟨k,hk,rfl,rfl,hx,hL⟩:=hrel
     by_cases hlt:k<l.length
     · have Vx:=(hl.ent k hlt)
       have hst:=yO g l hlt;obtain ⟨b,o,rfl,_,_,_⟩:=hl.at_ k hlt;have hrg:=fun (W:World) (hb:Below w.heap.size w W)=>tC hl hlt hb rfl;obtain ⟨ek,hek⟩:∃ e,l[k]=e:=⟨_,rfl⟩;rw [hek] at Vx hst
       have hrg:∀ W:World,Below w.heap.size w W→W.rangeAt b (o+k*5) (dU ek):=fun W hb=>by have:=hrg W hb;rwa [hek] at this
       have hx2:=hx.out;rw [hst] at hx2;have HX:=hide hx2;clear hst hek hx hx2
       go_upto_region 9 with (fail)
       go_cut [5,6] (fun v5 v6 wx=>v5= .int .i64 (Sk.dV g ek.x)∧v6= .int .i64 k∧Bx w wx [(w.heap.size,bT g,28)])
       case first=>
        have ZN:∀ W:World,Bx w W [(w.heap.size,bT g,28)]→W.rangeAt (w.heap.size) 0 (bT g):=fun W h=>h.rng 0 rfl 0 _ rfl;have ZO:∀ W:World,Bx w W [(w.heap.size,bT g,28)]→W.rangeAt (b) (o+k*5) (dU ek):=fun W h=>(hrg W h.bw);have hL:=hL.drew;refine wp_region_held_drew (S:=(fun w':World=>Bx w w' [(w.heap.size,bT g,28)])) (by kernel_rfl) ?bW (fun hHeld=>?_)
        case bW=>exact hL
        refine wpAnyH_take (i:=0) (oi:=_) (v:=_) (ga rfl) (by kernel_rfl) (by kernel_rfl) (by kernel_rfl) (fun _ _ _ h=>h) (yieldsIf_load_mid (by rfl) _ _ (by rfl) _ _ (by rfl) _ _ ZN Tryz.underlying28 rfl (by kernel_rfl)) (by assumption) ?_
        try simp only [Act.put,la,lz,ls]
        refine tk 1 ?_;refine tk 2 ?_;refine tk 3 ?_;refine wpAnyH_take (i:=4) (oi:=_) (v:=_) (ga rfl) (by kernel_rfl) (by kernel_rfl) (by kernel_rfl) (fun _ _ _ h=>h) (yieldsIf_load_mid (by rfl) _ _ (by rfl) _ _ (by rfl) _ _ ZO Tryz.underlying85 rfl (by kernel_rfl)) (by assumption) ?_
        try simp only [Act.put,la,lz,ls]
        refine tr 5 fun K hK=>?_;go_simp
        (go_at_call 73;refine (AA S g HZ.out ek _ (Vx.below hL.bw)).mono ?_;rintro e w9a ⟨rfl,aiL⟩)
        have hL:=hL.call aiL;refine hK.out _ _ ?P8 (fun hHeld=>?_)
        case P8=>(exact hL)
        clear hK K
        try simp only [Act.put,la,lz,ls]
        refine tk 6 ?_;refine wpAnyH_done (by kernel_rfl) ?_ _;go_wp2;go_meet;exact ⟨rfl,rfl,hL⟩
       case rest=>
        obtain ⟨rfl,rfl,hL⟩:=hcut;obtain ⟨z,hz⟩:∃ q,Sk.dV g ek.x=q:=⟨_,rfl⟩;rw [hz] at HX;rw [hz];clear hz
        rcases hz2:(z != 0) with _ | _
        · have hz3:z=0:=by simpa using hz2
          subst hz3;have HX2:=hide (show Sk.lu g (bare l)=Sk.lu g (bare (l.drop (k+1))) by rw [HX.out];rfl);clear HX;go_wp2
          go_roundw
          case rel=>exact ⟨k+1,by omega,rfl,by go_num,HX2.out,hL⟩
          case measure=>simp [intOf];omega
        · have HX2:=hide (show z=Sk.iq g (bare l) by rw [HR.out,HX.out,if_pos (by simpa using hz2)])
          clear HX;go_wp2;go_ret;exact ⟨bf HX2.out,hL.bw⟩
     · have HX:=hide (show (0:Int)=Sk.iq g (bare l) by rw [HR.out,hx.out,List.drop_of_length_le (by omega)];rfl)
       clear hx;go_wp2;go_ret;exact ⟨bf HX.out,hL.bw⟩
theorem JF (g:Sk.Game) (w:World):Calls Tryz.prog 24 #[lZ g] w fun e w'=>e= .returned (kW (Sk.start g))∧Below w.heap.size w w':=by
 have e1:=gG g.kind [115,110,111,111,107,101,114];have HE:=hide (show aO (Sk.start g)=if (g.kind.toList == [115,110,111,111,107,101,114]) then [.int .i64 0,.int .i64 0,.int .i64 0,.int .i64 0,.string ⟨#[114,101,100]⟩,.int .i64 g.bI,.int .i64 0,.bool false,.bool false,.int .i64 0,.int .i64 0,.int .i64 0,.int .i64 (-1)] else [.int .i64 0,.int .i64 0,.int .i64 0,.int .i64 0,.string ⟨#[112,108,97,121]⟩,.int .i64 g.bI,.int .i64 0,.bool false,.bool false,.int .i64 0,.int .i64 0,.int .i64 0,.int .i64 (-1)] by rw [e1];unfold Sk.start aO;by_cases h:g.kind=Sk.aW <;> simp [h] <;> rfl);clear e1
 go_enter Tryz.func24,Tryz.ntmps24
 go_upto_region 0 with (fail)
 go_cut [1,2] (fun v1 v2 wx=>v1=ptr (w.heap.size)∧v2=ptr (w.heap.size+1)∧Bx w wx [(w.heap.size,bT g,28),(w.heap.size+1,aO Sk.zero,39)])
 case first=>
  go_wp2;go_meet;exact ⟨rfl,rfl,Bx.of (((aJ.nil w).new (by simp) (bT g) 28).new (by simp) (aO Sk.zero) 39) _ rfl⟩
 case rest=>
  obtain ⟨rfl,rfl,hL⟩:=hcut;have k0:=(hL.get 0 rfl).cell (j:=0) rfl;have k1:=(hL.get 0 rfl).cell (j:=1) rfl
  go_upto_region 1 with (fail)
  go_cut [3] from 3 to 7 (fun v3 wx=>∃ B,v3=ptr B∧Bx w wx [(B,[.int .i64 0,.int .i64 0,.int .i64 0,.int .i64 0,.string ⟨#[112,108,97,121]⟩,.int .i64 g.bI,.int .i64 0,.bool false,.bool false,.int .i64 0,.int .i64 0,.int .i64 0,.int .i64 (-1)],39),(w.heap.size,bT g,28),(w.heap.size+1,aO Sk.zero,39)])
  case first=>
   have hZ:=hL.add [.int .i64 0,.int .i64 0,.int .i64 0,.int .i64 0,.string ⟨#[112,108,97,121]⟩,.int .i64 g.bI,.int .i64 0,.bool false,.bool false,.int .i64 0,.int .i64 0,.int .i64 0,.int .i64 (-1)] 39;go_wp2;go_meet;exact ⟨_,rfl,hZ⟩
  case rest=>
   obtain ⟨B,rfl,hL2⟩:=hcut;have hL:=hL2;clear k0 k1;have k0:=(hL.get 1 rfl).cell (j:=0) rfl
   rcases h1:(g.kind.toList == [115,110,111,111,107,101,114]) with _ | _
   · have HR:=hide (show aO (Sk.start g)=[.int .i64 0,.int .i64 0,.int .i64 0,.int .i64 0,.string ⟨#[112,108,97,121]⟩,.int .i64 g.bI,.int .i64 0,.bool false,.bool false,.int .i64 0,.int .i64 0,.int .i64 0,.int .i64 (-1)] by rw [HE.out,h1];rfl)
     clear HE;have hW:=hL.tail.tail;have hE:=hW.put [.int .i64 0,.int .i64 0,.int .i64 0,.int .i64 0,.string ⟨#[112,108,97,121]⟩,.int .i64 g.bI,.int .i64 0,.bool false,.bool false,.int .i64 0,.int .i64 0,.int .i64 0,.int .i64 (-1)] rfl
     go_wp2_with (first | ((with_reducible (refine ah 39 (.tmp 3) ?lx ?_));(case lx=>rfl);refine aK (hL.rng 0 rfl 0 ([.int .i64 0,.int .i64 0,.int .i64 0,.int .i64 0,.string ⟨#[112,108,97,121]⟩,.int .i64 g.bI,.int .i64 0,.bool false,.bool false,.int .i64 0,.int .i64 0,.int .i64 0,.int .i64 (-1)]) rfl) Tryz.underlying39 rfl iQ rfl (.tmp 3) rfl rfl ?_) | ((with_reducible (refine ah 39 (.tmp 3) ?lx ?_));(case lx=>rfl);refine fA (hL.rng 0 rfl 0 ([.int .i64 0,.int .i64 0,.int .i64 0,.int .i64 0,.string ⟨#[112,108,97,121]⟩,.int .i64 g.bI,.int .i64 0,.bool false,.bool false,.int .i64 0,.int .i64 0,.int .i64 0,.int .i64 (-1)]) rfl) Tryz.underlying39 rfl iQ rfl (.tmp 3) rfl rfl ?_) | ((with_reducible (refine aI 39 (.tmp 3) ?lx ?_));(case lx=>rfl);refine eu (hL.rng 0 rfl 0 ([.int .i64 0,.int .i64 0,.int .i64 0,.int .i64 0,.string ⟨#[112,108,97,121]⟩,.int .i64 g.bI,.int .i64 0,.bool false,.bool false,.int .i64 0,.int .i64 0,.int .i64 0,.int .i64 (-1)]) rfl) Tryz.underlying39 rfl iQ (.tmp 3) rfl rfl ?_) | ((with_reducible (refine aH 39 (.tmp 2) (.tmp 11) ?lx ?_));(case lx=>rfl);refine aC (hL.get 2 rfl) ([.int .i64 0,.int .i64 0,.int .i64 0,.int .i64 0,.string ⟨#[112,108,97,121]⟩,.int .i64 g.bI,.int .i64 0,.bool false,.bool false,.int .i64 0,.int .i64 0,.int .i64 0,.int .i64 (-1)]) rfl iQ (by simp [Value.oneCell']) rfl (.tmp 2) (.tmp 11) rfl rfl rfl ?_))
     refine bodyPost_ret (aX (p:=2) (hE.get 0 rfl) Tryz.underlying39 rfl iQ rfl _ rfl) rfl ⟨?_,hE.bw⟩
     show Ending.returned (Value.agg (List.toArray [.int .i64 0,.int .i64 0,.int .i64 0,.int .i64 0,.string ⟨#[112,108,97,121]⟩,.int .i64 g.bI,.int .i64 0,.bool false,.bool false,.int .i64 0,.int .i64 0,.int .i64 0,.int .i64 (-1)]))=Ending.returned (Value.agg (aO (Sk.start g)).toArray);rw [HR.out]
   · have HR:=hide (show aO (Sk.start g)=[.int .i64 0,.int .i64 0,.int .i64 0,.int .i64 0,.string ⟨#[114,101,100]⟩,.int .i64 g.bI,.int .i64 0,.bool false,.bool false,.int .i64 0,.int .i64 0,.int .i64 0,.int .i64 (-1)] by rw [HE.out,h1];rfl)
     clear HE;have kB:=(hL.get 0 rfl).cell (j:=4) rfl;have kBf:=(hL.get 0 rfl).frozen 4;have hS:=hL.set 4 (.string ⟨#[114,101,100]⟩);have hW:=hS.tail.tail;have hE:=hW.put [.int .i64 0,.int .i64 0,.int .i64 0,.int .i64 0,.string ⟨#[114,101,100]⟩,.int .i64 g.bI,.int .i64 0,.bool false,.bool false,.int .i64 0,.int .i64 0,.int .i64 0,.int .i64 (-1)] rfl
     go_wp2_with (first | ((with_reducible (refine ah 39 (.tmp 3) ?lx ?_));(case lx=>rfl);refine aK (hS.rng 0 rfl 0 ([.int .i64 0,.int .i64 0,.int .i64 0,.int .i64 0,.string ⟨#[114,101,100]⟩,.int .i64 g.bI,.int .i64 0,.bool false,.bool false,.int .i64 0,.int .i64 0,.int .i64 0,.int .i64 (-1)]) rfl) Tryz.underlying39 rfl iQ rfl (.tmp 3) rfl rfl ?_) | ((with_reducible (refine ah 39 (.tmp 3) ?lx ?_));(case lx=>rfl);refine fA (hS.rng 0 rfl 0 ([.int .i64 0,.int .i64 0,.int .i64 0,.int .i64 0,.string ⟨#[114,101,100]⟩,.int .i64 g.bI,.int .i64 0,.bool false,.bool false,.int .i64 0,.int .i64 0,.int .i64 0,.int .i64 (-1)]) rfl) Tryz.underlying39 rfl iQ rfl (.tmp 3) rfl rfl ?_) | ((with_reducible (refine aI 39 (.tmp 3) ?lx ?_));(case lx=>rfl);refine eu (hS.rng 0 rfl 0 ([.int .i64 0,.int .i64 0,.int .i64 0,.int .i64 0,.string ⟨#[114,101,100]⟩,.int .i64 g.bI,.int .i64 0,.bool false,.bool false,.int .i64 0,.int .i64 0,.int .i64 0,.int .i64 (-1)]) rfl) Tryz.underlying39 rfl iQ (.tmp 3) rfl rfl ?_) | ((with_reducible (refine aH 39 (.tmp 2) (.tmp 11) ?lx ?_));(case lx=>rfl);refine aC (hS.get 2 rfl) ([.int .i64 0,.int .i64 0,.int .i64 0,.int .i64 0,.string ⟨#[114,101,100]⟩,.int .i64 g.bI,.int .i64 0,.bool false,.bool false,.int .i64 0,.int .i64 0,.int .i64 0,.int .i64 (-1)]) rfl iQ (by simp [Value.oneCell']) rfl (.tmp 2) (.tmp 11) rfl rfl rfl ?_))
     refine bodyPost_ret (aX (p:=2) (hE.get 0 rfl) Tryz.underlying39 rfl iQ rfl _ rfl) rfl ⟨?_,hE.bw⟩
     show Ending.returned (Value.agg (List.toArray [.int .i64 0,.int .i64 0,.int .i64 0,.int .i64 0,.string ⟨#[114,101,100]⟩,.int .i64 g.bI,.int .i64 0,.bool false,.bool false,.int .i64 0,.int .i64 0,.int .i64 0,.int .i64 (-1)]))=Ending.returned (Value.agg (aO (Sk.start g)).toArray);rw [HR.out]
theorem Q9:(Tryz.prog.info? 85).map (fun i=>(i.zero,i.size,i.bytes))=some (some (.agg #[.string ⟨#[]⟩,.string ⟨#[]⟩,.slice none 0 0,.slice none 0 0,.int .i64 0]),5,88):=by kernel_rfl
theorem NV (l:List En) (k:Nat) (hk:k<l.length):yQ (l.take (k+1))=yQ (l.take k)++dU l[k]:=by
 rw [List.take_succ_eq_append_getElem hk,vS]
 simp [yQ]
theorem Jl (b:Bool) (n:Int) (w:World):Calls Tryz.prog 28 #[.bool b,.int .i64 n] w fun e w'=>e= .returned (.int .i64 (iL b n))∧w=w':=by
 cases b
 all_goals
  go_enter Tryz.func28,Tryz.ntmps28
  go_wp2;go_ret;exact ⟨rfl,rfl⟩
theorem Gh (S:Nat→Prop) (A:Option Addr) (c:Nat) (zs:List Int) (w:World) (h:jV w S A c zs):
 Calls Tryz.prog 27 #[.slice A zs.length c] w fun r w'=>r= .returned (.int .i64 (fst zs))∧w=w':=by
 obtain ⟨b1,b2,b3⟩:=h.bd
 go_enter Tryz.func27,Tryz.ntmps27
 go_wp2
 go_loop [3] (fun i=>∃ k:Nat,k≤zs.length∧i= .int .i64 k∧fst zs=fst (zs.drop k)) (fun i=>zs.length - (intOf i).toNat)
 case atStart=>exact ⟨0,Nat.zero_le _,rfl,by simp⟩
 case round=>
  obtain ⟨k,hk,rfl,hx⟩:=hrel
  by_cases hlt:k<zs.length
  · obtain ⟨b,o,rfl,_,_,hc⟩:=h.at_ k hlt
    have hck:=hc k hlt;rw [FH hlt] at hx;clear hc
    by_cases he:zs[k]=0
    · have he':(zs[k] != 0)=false:=by simp [he]
      rw [if_neg (by simp [he])] at hx;have HX:=hide hx;clear hx he;go_wp2
      go_round
      case rel=>exact ⟨k+1,by omega,by go_num,HX.out⟩
      case measure=>simp [intOf];omega
    · have he':(zs[k] != 0)=true:=by simp [he]
      rw [if_pos he] at hx;have HX:=hide hx;clear hx he;go_wp2;go_ret;exact ⟨bf HX.out.symm,rfl⟩
  · have hz:fst zs=0:=by rw [hx,List.drop_of_length_le (by omega),fst]
    have HX:=hide hz;clear hx hz;go_wp2;go_ret;exact ⟨bf HX.out.symm,rfl⟩
theorem LY (a b n x:Int) (hn:b=n) (ha:a=if n=0 then x else 0) (w:World):Calls Tryz.prog 35 #[.int .i64 a,.int .i64 b,.int .i64 n,.int .i64 x] w fun e w'=>e= .returned (.bool true)∧w=w':=by
 subst hn
 by_cases h:b=0
 · subst h
   rw [if_pos rfl] at ha;subst ha
   go_enter Tryz.func35,Tryz.ntmps35
   go_wp2;go_ret;exact ⟨rfl,rfl⟩
 · rw [if_neg h] at ha
   subst ha
   have h1:(b != 0)=true:=by simp [h]
   go_enter Tryz.func35,Tryz.ntmps35
   go_wp2;go_ret;exact ⟨rfl,rfl⟩
def VZ (g:Sk.Game) (s:Sk.State):Bool:=decide (20<(g.kind.size:Int)) || decide (20<(s.phase.size:Int))
theorem Jm (g:Sk.Game) (s:Sk.State) (w:World):Calls Tryz.prog 13 #[lZ g,kW s] w fun e w'=>e= .returned (.bool (VZ g s))∧Below w.heap.size w w':=by
 go_enter Tryz.func13,Tryz.ntmps13
 go_upto_region 0 with (fail)
 go_cut [2,3,4] (fun v2 v3 v4 wx=>v2=ptr (w.heap.size)∧v3=ptr (w.heap.size+1)∧v4= .bool false∧Bx w wx [(w.heap.size,bT g,23),(w.heap.size+1,aO s,26)])
 case first=>
  go_wp2;go_meet;exact ⟨rfl,rfl,rfl,Bx.of (((aJ.nil w).new (by simp) (bT g) 23).new (by simp) (aO s) 26) _ rfl⟩
 case rest=>
  obtain ⟨rfl,rfl,rfl,hL⟩:=hcut;have k0:=(hL.get 0 rfl).cell (j:=0) rfl;have k4:=(hL.get 1 rfl).cell (j:=4) rfl
  rcases h1:decide (20<(g.kind.size:Int)) with _ | _
  all_goals
   go_wp2;go_ret;exact ⟨aN (by simp [VZ,h1]),hL.bw⟩
theorem Cc (S:Nat→Prop) (l:List En) (A:Option Addr) (c:Nat) (w:World) (hp:qh w S A c l) (hl:l.length*88≤140737488355328):
 Calls Tryz.prog 15 #[.slice A l.length c] w fun e w'=>∃ A' c',e= .returned (.slice A' l.length c')∧qh w' (fun b=>S b∨w.heap.size≤b) A' c' l∧Below w.heap.size w w':=by
 obtain ⟨b1,b2,b3⟩:=hp.bd;obtain ⟨i0,hi0,hz0,hz1,hz2⟩:=info_parts Q9
 go_enter Tryz.func15,Tryz.ntmps15
 go_wp2
 go_loopw [3,4] (fun v i wr=>∃ (k:Nat) (A':Option Addr) (c':Nat),k≤l.length∧i= .int .i64 k∧v= .slice A' k c'∧wr.ownsRow w.heap.size 85 5 (.slice A' k c') k (yQ (l.take k))∧Below w.heap.size w wr) (fun _ i=>fun _=>l.length - (intOf i).toNat)
 case atStart=>exact ⟨0,none,0,Nat.zero_le _,rfl,rfl,World.ownsRow_nil _ _ _ _,Below.refl _ _⟩
 case round=>
  obtain ⟨k,A',c',hk,rfl,rfl,hown,hbw⟩:=hrel;have auY:=hbw.size
  by_cases hlt:k<l.length
  · obtain ⟨b,o,rfl,_,hbl,_⟩:=(hp.below hbw).at_ k hlt
    have h00:wr.rangeAt b (o+k*5) [.string l[k].x.kind,.string l[k].x.called,.slice l[k].A l[k].x.hits.length l[k].a,.slice l[k].B l[k].x.aV.length l[k].b,.int .i64 l[k].x.bD]:=tC hp hlt hbw rfl
    have i1:(0:Int)≤(k:Int):=by omega
    have i2:(k:Int)<(l.length:Int):=by omega
    have hes:yQ (l.take (k+1))=yQ (l.take k)++[.string l[k].x.kind,.string l[k].x.called,.slice l[k].A l[k].x.hits.length l[k].a,.slice l[k].B l[k].x.aV.length l[k].b,.int .i64 l[k].x.bD]:=NV l k hlt;have HES:=hide hes;clear hes
    go_wp2_with (first | ((with_reducible (refine ah 83 (.tmp 14) ?lx ?_));(case lx=>rfl);refine aK (g:=b) (o:=o+k*5) h00 Tryz.underlying83 rfl bF rfl (.tmp 14) rfl rfl ?_) | (at_builtin;refine wpList_append_lies _ rfl _ _ _ rfl w.heap.size 85 i0 (.agg #[.string ⟨#[]⟩,.string ⟨#[]⟩,.slice none 0 0,.slice none 0 0,.int .i64 0]) 5 88 Tryz.underlying32 hi0 hz0 hz1 hz2 rfl (by omega) _ _ _ rfl (hown.alloc _) ⟨wr.heap.size,0,none⟩ 1 1 ([.string l[k].x.kind,.string l[k].x.called,.slice l[k].A l[k].x.hits.length l[k].a,.slice l[k].B l[k].x.aV.length l[k].b,.int .i64 l[k].x.bD]) rfl rfl (jW _ _ _ _ (by simp)) (Ih l[k]) (by omega) (by simp only [maxLen];omega) (by omega) (by simp;omega) (wr.heap.size+1) (by simp) ?_))
    intro g1 cap w4 hown4 hgrow hat _;have hb4:Below w.heap.size w w4:=(hbw.alloc (by omega) _).trans (KP (hown.alloc _) hgrow (by omega) (by simp;omega));rw [← HES.out] at hown4;have HO:=hide hown4;clear hown4 hgrow;go_wp2
    go_roundw
    case rel=>exact ⟨k+1,_,_,by omega,by go_num,rfl,HO.out,hb4⟩
    case measure=>simp [intOf];omega
  · have hke:k=l.length:=by omega
    subst hke;rw [List.take_length] at hown;have hrd:qh wr (fun b=>S b∨w.heap.size≤b) A' c' l:=⟨Reads.more (Reads.Aw hown (fun b h=>h) (by omega)) (fun b _ h=> .inr h),fun e he=>((hp.2 e he).below hbw).more (fun b _ h=> .inl h)⟩;have HRD:=hide hrd;clear hrd hown;go_wp2;go_ret;exact ⟨_,_,rfl,HRD.out,hbw⟩
end Go.Proofs.YtjbbfmofpjflmaaGreatDoor
