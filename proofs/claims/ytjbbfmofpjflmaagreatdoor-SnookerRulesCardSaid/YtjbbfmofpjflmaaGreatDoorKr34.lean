/- Parts of a proof. -/
import Derived.Test.YtjbbfmofpjflmaaGreatDoorKr19
set_option maxHeartbeats 3000000
set_option maxRecDepth 100000
set_option linter.unusedVariables false
set_option linter.unusedSimpArgs false
namespace Go.Proofs.YtjbbfmofpjflmaaGreatDoor
open Go.RowKit
theorem arI {g:Sk.Game} {s:Sk.State} {v:Sk.dI} (ht:s.turn=0) (hn:¬ (v.stays=true∧s.s0<g.target)):Sk.fG g s v=Sk.pass (FP s):=by
 unfold Sk.fG Sk.score Sk.jH
 rw [if_pos ht,if_neg hn]
 dsimp only
 rw [if_pos ht,if_neg (by rw [ht];rintro ⟨h,_⟩;exact absurd h (by decide))]
 rfl
theorem arP {g:Sk.Game} {s:Sk.State} {v:Sk.dI} (ht:s.turn=1) (hn:¬ (v.stays=true∧s.s1<g.target)) (b:Bool) (hb:(decide (g.target≤max s.s0 s.s1) || (s.t1+1 == g.turns))=b):Sk.fG g s v=if b=true then cW (Sk.pass (cT1 s)) (Sk.leader (Sk.pass (cT1 s))) else Sk.pass (cT1 s):=by
 have h0:¬ s.turn=0:=by omega
 have hb':b=true↔(s.turn=1∧(g.target≤max s.s0 s.s1∨s.t1+1=g.turns)):=by rw [← hb];simp [ht]
 unfold Sk.fG Sk.score Sk.jH
 rw [if_neg h0,if_neg hn]
 dsimp only
 rw [if_neg h0];exact ite_congr (propext hb').symm (fun _=>rfl) (fun _=>rfl)
theorem zM (g:Sk.Game) (s:Sk.State) (v:Sk.dI) (w:World) (ht:s.turn=0∨s.turn=1) (hb0:0≤s.t0∧s.t0≤100) (hb1':0≤s.t1∧s.t1≤100):Calls Tryz.prog 87 #[lX g,jE s,FD v] w fun e_ w'=>e_= .returned (jE (Sk.fG g s v))∧Below w.heap.size w w':=by
 go_enter Tryz.func87,Tryz.ntmps87
 go_upto_region 0 with (fail)
 go_cut [3,4,5,6] (fun v3 v4 v5 v6 wx=>v3=ptr w.heap.size∧v4=ptr (w.heap.size+1)∧v5=ptr (w.heap.size+2)∧v6=ptr (w.heap.size+3)∧aG w wx [(bK g,28),(aC s,39),(dV v,91),(aC Sk.zero,39)])
 case first=>
  go_wp2;go_meet;exact ⟨rfl,rfl,rfl,rfl,(((((aG.nil w).new (by simp) (bK g) _).new (by simp) (aC s) _).new (by simp) (dV v) _).new (by simp) (aC Sk.zero) _)⟩
 case rest=>
  obtain ⟨rfl,rfl,rfl,rfl,hB⟩:=hcut;have k0:=(hB.get 1 rfl).cell (j:=0) rfl;have u3:=(hB.get 2 rfl).cell (j:=3) rfl;have z1:_=some (Value.int .i64 s.s0):=(hB.get 1 rfl).cell (j:=1) rfl;have Ik:=(hB.get 1 rfl).frozen 1;have z2:_=some (Value.int .i64 s.s1):=(hB.get 1 rfl).cell (j:=2) rfl;have Il:=(hB.get 1 rfl).frozen 2;have z10:_=some (Value.int .i64 s.t0):=(hB.get 1 rfl).cell (j:=10) rfl;have vM:=(hB.get 1 rfl).frozen 10;have z11:_=some (Value.int .i64 s.t1):=(hB.get 1 rfl).cell (j:=11) rfl;have vN:=(hB.get 1 rfl).frozen 11;have g2:_=some (Value.int .i64 g.target):=(hB.au rfl).cell (j:=2) rfl;have g3:_=some (Value.int .i64 g.turns):=(hB.au rfl).cell (j:=3) rfl;have ht0:=ht
  rcases ht0 with ht' | ht'
  all_goals rw [ht'] at k0
  · obtain ⟨b0,Pq⟩:∃ b0,(v.stays && decide (s.s0<g.target))=b0:=⟨_,rfl⟩
    have HB0:=hide Pq;clear Pq
    go_upto_region 1 with (fail)
    go_cut [19] from 8 to 20 (fun v19 wx=>v19= .bool b0∧aG w wx [(bK g,28),(aC s,39),(dV v,91),(aC Sk.zero,39)])
    case first=>
     rcases hst:v.stays with _ | _
     all_goals rw [hst] at u3
     all_goals
      rcases hl:decide (s.s0<g.target) with _ | _
      all_goals
       go_quiet (fail)
       go_wp2;go_meet;exact ⟨congrArg Value.bool (by rw [← HB0.out,hst,hl];rfl),hB.drewN nq⟩
    case rest=>
     obtain ⟨rfl,hB⟩:=hcut
     rename World=>W1
     clear z1 Ik z2 Il z10 vM z11 vN g2 g3;clear u3 k0
     cases b0
     · have HN:=hide (show ¬ (v.stays=true∧s.s0<g.target) by have h:=HB0.out;simp at h;rintro ⟨h1,h2⟩;have:=h h1;omega)
       have z1:_=some (Value.int .i64 s.s0):=(hB.get 1 rfl).cell (j:=1) rfl;have Ik:=(hB.get 1 rfl).frozen 1;have z2:_=some (Value.int .i64 s.s1):=(hB.get 1 rfl).cell (j:=2) rfl;have Il:=(hB.get 1 rfl).frozen 2;have z10:_=some (Value.int .i64 s.t0):=(hB.get 1 rfl).cell (j:=10) rfl;have vM:=(hB.get 1 rfl).frozen 10;have z11:_=some (Value.int .i64 s.t1):=(hB.get 1 rfl).cell (j:=11) rfl;have vN:=(hB.get 1 rfl).frozen 11;have g2:_=some (Value.int .i64 g.target):=(hB.au rfl).cell (j:=2) rfl;have g3:_=some (Value.int .i64 g.turns):=(hB.au rfl).cell (j:=3) rfl;have k0:_=some (Value.int .i64 0):=((hB.get 1 rfl).cell (j:=0) rfl).trans (by rw [ht']);have hU:aG w (W1.setCell ⟨w.heap.size+1,10,none⟩ (.int .i64 (s.t0+1))) [(bK g,28),(aC (FP s),39),(dV v,91),(aC Sk.zero,39)]:=hB.set 1 rfl 10 _
       go_upto_region 5 with (fail)
       go_cut [] from 20 to 34 (fun wx=>aG w wx [(bK g,28),(aC (Sk.pass (FP s)),39),(dV v,91),(aC Sk.zero,39)])
       case first=>
        go_wp2_with (first | ((with_reducible refine bJ 39 4 ?_);refine dW (hU.get 1 rfl) Tryz.underlying39 aJ ?_) | (go_at_call 86;refine (rH (FP s) ht _).mono ?_;rintro e1 w1 ⟨rfl,hb1⟩;have hV:=hU.call (by simp) hb1) | ((with_reducible refine isS 39 4 33 ?_);refine fU (hV.get 1 rfl) (aC (Sk.pass (FP s))) aJ (aT _) ?_))
        go_meet;exact hV.put 1 rfl (aC (Sk.pass (FP s))) rfl
       case rest=>
        have hB:=hcut;clear hcut;have HM:=hide (show Sk.fG g s v=(Sk.pass (FP s)) from arI ht' HN.out);clear k0
        go_wp2_with (first | ((with_reducible refine bJ 39 4 ?_);refine dW (hB.get 1 rfl) Tryz.underlying39 aJ ?_) | ((with_reducible refine isS 39 6 58 ?_);refine fU (hB.get 3 rfl) (aC (Sk.pass (FP s))) aJ (aT _) ?_))
        have hZ:=hB.put 3 rfl (aC (Sk.pass (FP s))) rfl;refine bodyPost_ret (aI (p:=6) (hZ.get 3 rfl) Tryz.underlying39 rfl aJ rfl _ rfl) rfl ⟨?_,hZ.bw⟩;rw [HM.out];rfl
     · have HM:=hide (show Sk.fG g s v=s by have h:=HB0.out;simp at h;unfold Sk.fG Sk.score;rw [if_pos ⟨h.1,by rw [if_pos ht'];exact h.2⟩])
       go_wp2_with (first | ((with_reducible refine bJ 39 4 ?_);refine dW (hB.get 1 rfl) Tryz.underlying39 aJ ?_) | ((with_reducible refine isS 39 6 20 ?_);refine fU (hB.get 3 rfl) (aC s) aJ (aT _) ?_))
       have hZ:=hB.put 3 rfl (aC s) rfl;refine bodyPost_ret (aI (p:=6) (hZ.get 3 rfl) Tryz.underlying39 rfl aJ rfl _ rfl) rfl ⟨?_,hZ.bw⟩;rw [HM.out];rfl
  · obtain ⟨b0,Pq⟩:∃ b0,(v.stays && decide (s.s1<g.target))=b0:=⟨_,rfl⟩
    have HB0:=hide Pq;clear Pq
    go_upto_region 1 with (fail)
    go_cut [19] from 8 to 20 (fun v19 wx=>v19= .bool b0∧aG w wx [(bK g,28),(aC s,39),(dV v,91),(aC Sk.zero,39)])
    case first=>
     rcases hst:v.stays with _ | _
     all_goals rw [hst] at u3
     all_goals
      rcases hl:decide (s.s1<g.target) with _ | _
      all_goals
       go_quiet (fail)
       go_wp2;go_meet;exact ⟨congrArg Value.bool (by rw [← HB0.out,hst,hl];rfl),hB.drewN nq⟩
    case rest=>
     obtain ⟨rfl,hB⟩:=hcut
     rename World=>W1
     clear z1 Ik z2 Il z10 vM z11 vN g2 g3;clear u3 k0
     cases b0
     · have HN:=hide (show ¬ (v.stays=true∧s.s1<g.target) by have h:=HB0.out;simp at h;rintro ⟨h1,h2⟩;have:=h h1;omega)
       have z1:_=some (Value.int .i64 s.s0):=(hB.get 1 rfl).cell (j:=1) rfl;have Ik:=(hB.get 1 rfl).frozen 1;have z2:_=some (Value.int .i64 s.s1):=(hB.get 1 rfl).cell (j:=2) rfl;have Il:=(hB.get 1 rfl).frozen 2;have z10:_=some (Value.int .i64 s.t0):=(hB.get 1 rfl).cell (j:=10) rfl;have vM:=(hB.get 1 rfl).frozen 10;have z11:_=some (Value.int .i64 s.t1):=(hB.get 1 rfl).cell (j:=11) rfl;have vN:=(hB.get 1 rfl).frozen 11;have g2:_=some (Value.int .i64 g.target):=(hB.au rfl).cell (j:=2) rfl;have g3:_=some (Value.int .i64 g.turns):=(hB.au rfl).cell (j:=3) rfl;have k0:_=some (Value.int .i64 1):=((hB.get 1 rfl).cell (j:=0) rfl).trans (by rw [ht']);have hU:aG w (W1.setCell ⟨w.heap.size+1,11,none⟩ (.int .i64 (s.t1+1))) [(bK g,28),(aC (cT1 s),39),(dV v,91),(aC Sk.zero,39)]:=hB.set 1 rfl 11 _
       go_upto_region 5 with (fail)
       go_cut [] from 20 to 34 (fun wx=>aG w wx [(bK g,28),(aC (Sk.pass (cT1 s)),39),(dV v,91),(aC Sk.zero,39)])
       case first=>
        go_wp2_with (first | ((with_reducible refine bJ 39 4 ?_);refine dW (hU.get 1 rfl) Tryz.underlying39 aJ ?_) | (go_at_call 86;refine (rH (cT1 s) ht _).mono ?_;rintro e1 w1 ⟨rfl,hb1⟩;have hV:=hU.call (by simp) hb1) | ((with_reducible refine isS 39 4 33 ?_);refine fU (hV.get 1 rfl) (aC (Sk.pass (cT1 s))) aJ (aT _) ?_))
        go_meet;exact hV.put 1 rfl (aC (Sk.pass (cT1 s))) rfl
       case rest=>
        have hB:=hcut;clear hcut;clear k0;have z1:_=some (Value.int .i64 s.s0):=(hB.get 1 rfl).cell (j:=1) rfl;have Ik:=(hB.get 1 rfl).frozen 1;have z2:_=some (Value.int .i64 s.s1):=(hB.get 1 rfl).cell (j:=2) rfl;have Il:=(hB.get 1 rfl).frozen 2;have z10:_=some (Value.int .i64 s.t0):=(hB.get 1 rfl).cell (j:=10) rfl;have vM:=(hB.get 1 rfl).frozen 10;have z11:_=some (Value.int .i64 (s.t1+1)):=(hB.get 1 rfl).cell (j:=11) rfl;have vN:=(hB.get 1 rfl).frozen 11;have g2:_=some (Value.int .i64 g.target):=(hB.au rfl).cell (j:=2) rfl;have g3:_=some (Value.int .i64 g.turns):=(hB.au rfl).cell (j:=3) rfl;obtain ⟨b,hb⟩:∃ b,(decide (g.target≤max s.s0 s.s1) || (s.t1+1 == g.turns))=b:=⟨_,rfl⟩;have HR:=hide (arP ht' HN.out b hb)
        go_upto_region 6 with (fail)
        go_cut [54] from 34 to 55 (fun v54 wx=>v54= .bool b∧aG w wx [(bK g,28),(aC (Sk.pass (cT1 s)),39),(dV v,91),(aC Sk.zero,39)])
        case first=>
         rcases hm:decide (g.target≤max s.s0 s.s1) with _ | _
         · have hm':=of_decide_eq_false hm
           have hq:(s.t1+1 == g.turns)=b:=by rw [← hb,hm];rfl
           have HQ:=hide hq;have HM:=hide hm';clear hb hq hm hm';go_wp2
           all_goals first | (exfalso;have:=HM.out;omega) | skip
           all_goals
            go_meet
            first | exact ⟨congrArg _ HQ.out,hB⟩ | exact ⟨congrArg _ (by have h:=HM.out;rw [← HQ.out,Bool.eq_iff_iff];simp;omega),hB⟩
         · have hm':=of_decide_eq_true hm
           have hq:true=b:=by rw [← hb,hm];rfl
           have HQ:=hide hq;have HM:=hide hm';clear hb hq hm hm';go_wp2
           all_goals first | (exfalso;have:=HM.out;omega) | skip
           all_goals
            go_meet;exact ⟨congrArg _ HQ.out,hB⟩
        case rest=>
         obtain ⟨rfl,hB⟩:=hcut;clear hb;clear z1 Ik z2 Il z10 vM z11 vN g2 g3
         cases b
         · have HM:=hide (show Sk.fG g s v=(Sk.pass (cT1 s)) from HR.out.trans (if_neg (by simp)))
           go_wp2_with (first | ((with_reducible refine bJ 39 4 ?_);refine dW (hB.get 1 rfl) Tryz.underlying39 aJ ?_) | ((with_reducible refine isS 39 6 58 ?_);refine fU (hB.get 3 rfl) (aC (Sk.pass (cT1 s))) aJ (aT _) ?_))
           have hZ:=hB.put 3 rfl (aC (Sk.pass (cT1 s))) rfl;refine bodyPost_ret (aI (p:=6) (hZ.get 3 rfl) Tryz.underlying39 rfl aJ rfl _ rfl) rfl ⟨?_,hZ.bw⟩;rw [HM.out];rfl
         · have HM:=hide (show Sk.fG g s v=(cW (Sk.pass (cT1 s)) (Sk.leader (Sk.pass (cT1 s)))) from HR.out.trans (if_pos rfl))
           go_wp2_with (first | (go_at_call 89;refine (lU (Sk.pass (cT1 s)) _).mono ?_;rintro e1 w5 ⟨rfl,hb5⟩;have jc:=hB.call (by simp) hb5;have h12:=(jc.get 1 rfl).cell (j:=12) rfl;have xE:=(jc.get 1 rfl).frozen 12;have hE:aG w (w5.setCell ⟨w.heap.size+1,12,none⟩ (.int .i64 (Sk.leader (Sk.pass (cT1 s))))) [(bK g,28),(aC (cW (Sk.pass (cT1 s)) (Sk.leader (Sk.pass (cT1 s)))),39),(dV v,91),(aC Sk.zero,39)]:=jc.set 1 rfl 12 _) | ((with_reducible refine bJ 39 4 ?_);refine dW (hE.get 1 rfl) Tryz.underlying39 aJ ?_) | ((with_reducible refine bJ 39 4 ?_);refine dW (hB.get 1 rfl) Tryz.underlying39 aJ ?_) | ((with_reducible refine bJ 39 4 ?_);refine dW (hE.get 1 rfl) Tryz.underlying39 aJ ?_) | ((with_reducible refine isS 39 6 58 ?_);refine fU (hE.get 3 rfl) (aC (cW (Sk.pass (cT1 s)) (Sk.leader (Sk.pass (cT1 s))))) aJ (aT _) ?_))
           have hZ:=hE.put 3 rfl (aC (cW (Sk.pass (cT1 s)) (Sk.leader (Sk.pass (cT1 s))))) rfl;refine bodyPost_ret (aI (p:=6) (hZ.get 3 rfl) Tryz.underlying39 rfl aJ rfl _ rfl) rfl ⟨?_,hZ.bw⟩;rw [HM.out];rfl
     · have HM:=hide (show Sk.fG g s v=s by have h:=HB0.out;simp at h;unfold Sk.fG Sk.score;rw [if_pos ⟨h.1,by rw [if_neg (by rw [ht'];decide)];exact h.2⟩])
       go_wp2_with (first | ((with_reducible refine bJ 39 4 ?_);refine dW (hB.get 1 rfl) Tryz.underlying39 aJ ?_) | ((with_reducible refine isS 39 6 20 ?_);refine fU (hB.get 3 rfl) (aC s) aJ (aT _) ?_))
       have hZ:=hB.put 3 rfl (aC s) rfl;refine bodyPost_ret (aI (p:=6) (hZ.get 3 rfl) Tryz.underlying39 rfl aJ rfl _ rfl) rfl ⟨?_,hZ.bw⟩;rw [HM.out];rfl
def Fz (w:World) (b:Sk.State) (e:En) (v:Sk.dI) (s:Sk.State):List (Nat × List Value × TypeId):=[(w.heap.size+1,aC s,39),(w.heap.size,aC b,39),(w.heap.size+2,dn e,85),(w.heap.size+3,dV v,91),(w.heap.size+4,aC Sk.zero,39)]
theorem Hf {b s:Sk.State} {e:Sk.Entry} {v:Sk.dI} {r:Int} {fo:Bool} (hr:s.aY - Sk.count e.aF Sk.bG=r) (hf:decide (0<v.gU)=fo) (hp:b.phase≠Sk.bH):Sk.eG b s e v=if b.phase=Sk.fM∧0<v.points then aS s Sk.dA r s.colour fo s.ay else if 0<r then aS s Sk.fM r s.colour fo s.ay else aS s Sk.bH r 2 fo s.ay:=by
 subst hr hf
 unfold Sk.eG
 dsimp only
 rw [if_pos hp]
 rfl
theorem ajy {b s:Sk.State} {e:Sk.Entry} {v:Sk.dI} {r:Int} {fo p:Bool} {s2:Sk.State} (hr:s.aY - Sk.count e.aF Sk.bG=r) (hf:decide (0<v.gU)=fo) (hp:b.phase=Sk.bH) (hq:decide (v.gU=0∧Sk.has e.aF (Sk.iM b.colour)=true)=p) (h2:aS s s.phase r (if p=true∧b.colour<7 then s.colour+1 else s.colour) fo s.ay=s2):
 Sk.eG b s e v=if b.colour=7∧(p=true∨0<v.gU) then (if Sk.leader s2<2 then aS s2 s2.phase s2.aY s2.colour false (Sk.leader s2) else if p then Sk.pass s2 else s2) else s2:=by
 subst hr hf
 unfold Sk.eG
 dsimp only
 rw [if_neg (fun h=>h hp),hq]
 by_cases h7:p=true∧b.colour<7
 · rw [if_pos h7] at h2 ⊢
   subst h2
   rfl
 · rw [if_neg h7] at h2 ⊢
   subst h2
   rfl
theorem zN (S:Nat→Prop) (b s:Sk.State) (e:En) (v:Sk.dI) (w:World) (ht:s.turn=0∨s.turn=1) (hcb:0≤b.colour∧b.colour≤7) (hcs:0≤s.colour∧s.colour≤7) (hre:0≤s.aY∧s.aY≤15) (he:iL w S e):Calls Tryz.prog 88 #[jE b,jE s,rU e,FD v] w fun e_ w'=>e_= .returned (jE (Sk.eG b s e.x v))∧Below w.heap.size w w':=by
 obtain ⟨p4,p5,p6⟩:=he.aF.bd;have hcc:=yE e.x.aF Sk.bG
 have hcn:b.colour.toNat<Sk.dX.length:=by show b.colour.toNat<8;omega
 have i1:0≤b.colour:=hcb.1
 have i2:b.colour<8:=by omega
 have VZ:=hide (fun W=>xR W)
 go_enter Tryz.func88,Tryz.ntmps88
 go_upto_region 0 with (fail)
 go_cut [4,5,6,7,8] (fun v4 v5 v6 v7 v8 wx=>v4=ptr (w.heap.size)∧v5=ptr (w.heap.size+1)∧v6=ptr (w.heap.size+2)∧v7=ptr (w.heap.size+3)∧v8=ptr (w.heap.size+4)∧Bx w wx [(w.heap.size,aC b,39),(w.heap.size+1,aC s,39),(w.heap.size+2,dn e,85),(w.heap.size+3,dV v,91),(w.heap.size+4,aC Sk.zero,39)])
 case first=>
  go_wp2;go_meet;exact ⟨rfl,rfl,rfl,rfl,rfl,Bx.of ((((((aG.nil w).new (by simp) (aC b) 39).new (by simp) (aC s) 39).new (by simp) (dn e) 85).new (by simp) (dV v) 91).new (by simp) (aC Sk.zero) 39) _ rfl⟩
 case rest=>
  obtain ⟨rfl,rfl,rfl,rfl,rfl,hL⟩:=hcut;have hL:=hL.swap;have hpo:=he.aF.below hL.bw;have x3:=(hL.get 2 rfl).cell (j:=3) rfl;have s5:=(hL.get 0 rfl).cell (j:=5) rfl;have s5f:=(hL.get 0 rfl).frozen 5
  go_upto_region 1 with (fail)
  go_cut [] (fun wx=>Bx w wx (Fz w b e v (aS s s.phase (s.aY - Sk.count e.x.aF Sk.bG) s.colour s.aN s.ay)))
  case first=>
   have hwr:IntKind.i64.wrap (s.aY - Sk.count e.x.aF Sk.bG)=s.aY - Sk.count e.x.aF Sk.bG:=by rw [IntKind.wrap_i64];omega
   have hE:Bx w ((wc.drewN 1).setCell ⟨w.heap.size+1,5,none⟩ (.int .i64 (s.aY - Sk.count e.x.aF Sk.bG))) (Fz w b e v (aS s s.phase (s.aY - Sk.count e.x.aF Sk.bG) s.colour s.aN s.ay)):=(hL.drewN 1).set 5 _;refine wp_region_held_drew (S:=(fun w':World=>w'.cell? ⟨w.heap.size+2,3,none⟩=wc.cell? ⟨w.heap.size+2,3,none⟩)) (by kernel_rfl) ?bg (fun hHeld=>?_)
   case bg=>exact rfl
   refine tk 0 ?_;refine tk 2 ?_;refine tk 3 ?_;refine wpAnyH_ready (rs:=[1,4]) (by kernel_rfl) (by simp) ?_;refine AllReadyH.cons (o:=_) (ga rfl) (fun K hK=>?_) (AllReadyH.cons (o:=_) (ga rfl) (fun K hK=>?_) AllReadyH.nil)
   · go_simp
     refine hK.out _ _ ?Qs (fun hHeld=>?_)
     case Qs=>(exact rfl)
     clear hK K
     try simp only [Act.put,la,lz,ls]
     refine tr 4 fun K hK=>?_;go_simp
     (go_at_call 143;refine (mY S e.B e.b e.x.aF Sk.bG _ (hpo.drewN 1)).mono ?_;rintro e1 w9 ⟨rfl,rfl⟩)
     refine hK.out _ _ ?QD (fun hHeld=>?_)
     case QD=>(exact rfl)
     clear hK K
     try simp only [Act.put,la,lz,ls]
     refine tk 5 ?_;refine tk 6 ?_;refine tr 7 fun K hK=>?_;go_simp;refine hK.out _ _ ?QT (fun hHeld=>?_)
     case QT=>(exact (World.cell?_setCell_other _ _ _ _ (by intro h;simp at h)))
     clear hK K
     try simp only [Act.put,la,lz,ls]
     refine wpAnyH_done (by kernel_rfl) ?_ _;go_wp2;go_meet;exact hE
   · go_simp
     (go_at_call 143;refine (mY S e.B e.b e.x.aF Sk.bG _ (hpo.drewN 1)).mono ?_;rintro e1 w9 ⟨rfl,rfl⟩)
     refine hK.out _ _ ?QF (fun hHeld=>?_)
     case QF=>(exact rfl)
     clear hK K
     try simp only [Act.put,la,lz,ls]
     refine tr 1 fun K hK=>?_;go_simp;refine hK.out _ _ ?BF (fun hHeld=>?_)
     case BF=>(exact rfl)
     clear hK K
     try simp only [Act.put,la,lz,ls]
     refine tk 5 ?_;refine tk 6 ?_;refine tr 7 fun K hK=>?_;go_simp;refine hK.out _ _ ?QU (fun hHeld=>?_)
     case QU=>(exact (World.cell?_setCell_other _ _ _ _ (by intro h;simp at h)))
     clear hK K
     try simp only [Act.put,la,lz,ls]
     refine wpAnyH_done (by kernel_rfl) ?_ _;go_wp2;go_meet;exact hE
  case rest=>
   obtain ⟨r,hr⟩:∃ r,s.aY - Sk.count e.x.aF Sk.bG=r:=⟨_,rfl⟩;rw [hr] at hcut;have HR:=hide hr;have hL:=hcut;clear hcut x3 s5 s5f hpo hr;obtain ⟨fo,hfo⟩:∃ q,decide (0<v.gU)=q:=⟨_,rfl⟩;have HF:=hide hfo;have Qa:=(hL.get 3 rfl).cell (j:=1) rfl;have s8:=(hL.get 0 rfl).cell (j:=8) rfl;have s8f:=(hL.get 0 rfl).frozen 8
   go_upto_region 2 with (fail)
   go_cut [] from 17 to 21 (fun wx=>Bx w wx (Fz w b e v (aS s s.phase r s.colour fo s.ay)))
   case first=>
    have hE:=hL.set 8 (.bool fo);clear hfo;have hfo:=HF.out;go_wp2;go_meet;exact hE
   case rest=>
    have hL:=hcut;clear hcut Qa s8 s8f hfo;have aBB:=(hL.get 1 rfl).cell (j:=4) rfl
    by_cases hpf:b.phase=Sk.bH
    · have HP:=hide hpf
      have EK:=wt hpf
      have X6:(b.phase.toList != [102,105,110,97,108])=false:=by rw [bne,EK];rfl
      clear hpf;obtain ⟨p,hq⟩:∃ p,decide (v.gU=0∧Sk.has e.x.aF (Sk.iM b.colour)=true)=p:=⟨_,rfl⟩;have HQ:=hide hq;have HBC:=hide (BJ b.colour hcn);clear hq;have Qa:=(hL.get 3 rfl).cell (j:=1) rfl;have P9:=(hL.get 1 rfl).cell (j:=6) rfl
      go_upto_region 10 with (fail)
      go_cut [9] from 42 to 55 (fun v9 wx=>v9= .bool p∧Bx w wx (Fz w b e v (aS s s.phase r s.colour fo s.ay)))
      case first=>
       by_cases hv0:v.gU=0
       · have hv1:(v.gU == 0)=true:=by simp [hv0]
         have HV:=hide hv0;clear hv0;have hL:=hL.drew;refine wp_region_held_drew (S:=(fun w':World=>Bx w w' (Fz w b e v (aS s s.phase r s.colour fo s.ay))∧w'.cell? ⟨w.heap.size,6,none⟩=some (.int .i64 b.colour)∧w'.cell? ⟨w.heap.size+2,3,none⟩=some (.slice e.B e.x.aF.length e.b)∧w'.cell? ⟨w.heap.size+3,1,none⟩=some (.int .i64 v.gU))) (by kernel_rfl) ?bV (fun hHeld=>?_)
         case bV=>exact ⟨hL,(hL.get 1 rfl).cell (j:=6) rfl,(hL.get 2 rfl).cell (j:=3) rfl,(hL.get 3 rfl).cell (j:=1) rfl⟩
         refine tk 0 ?_;refine tk 1 ?_;refine tk 2 ?_;refine tk 3 ?_;refine tk 4 ?_;refine tk 5 ?_;refine tk 7 ?_;refine tk 8 ?_;refine tr 6 fun K hK=>?_;go_simp
         (go_at_call 52;refine (VZ.out _).mono ?_;rintro e aCh ⟨G,rfl,hcell,abv⟩)
         have hL:=hL.call abv;have hci:=hcell b.colour.toNat hcn;refine hK.out _ _ ?xQ (fun hHeld=>?_)
         case xQ=>(exact ⟨hL,(hL.get 1 rfl).cell (j:=6) rfl,(hL.get 2 rfl).cell (j:=3) rfl,(hL.get 3 rfl).cell (j:=1) rfl⟩)
         clear hK K
         try simp only [Act.put,la,lz,ls]
         refine tk 9 ?_;refine tr 10 fun K hK=>?_;go_simp;refine hK.out _ _ ?wG (fun hHeld=>?_)
         case wG=>(exact ⟨hL,(hL.get 1 rfl).cell (j:=6) rfl,(hL.get 2 rfl).cell (j:=3) rfl,(hL.get 3 rfl).cell (j:=1) rfl⟩)
         clear hK K
         try simp only [Act.put,la,lz,ls]
         refine tr 11 fun K hK=>?_;go_simp
         (go_at_call 129;refine (gZ S _ _ _ (Sk.dX[b.colour.toNat]'hcn) _ (he.aF.below hL.bw)).mono ?_;rintro e aCo ⟨rfl,rfl⟩)
         refine hK.out _ _ ?JK (fun hHeld=>?_)
         case JK=>(exact ⟨hL,(hL.get 1 rfl).cell (j:=6) rfl,(hL.get 2 rfl).cell (j:=3) rfl,(hL.get 3 rfl).cell (j:=1) rfl⟩)
         clear hK K
         try simp only [Act.put,la,lz,ls]
         refine tk 12 ?_;refine tk 13 ?_;refine wpAnyH_done (by kernel_rfl) ?_ _;go_wp2;go_meet;exact ⟨congrArg Value.bool (by rw [← HQ.out,HBC.out];simp [HV.out]),hL⟩
       · have hv1:(v.gU == 0)=false:=by simp [hv0]
         have HV:=hide hv0;clear hv0
         go_quiet (fail)
         go_wp2;go_meet;exact ⟨congrArg Value.bool (by rw [← HQ.out];simp [HV.out]),hL.drewN nq⟩
      case rest=>
       obtain ⟨rfl,hL⟩:=hcut;obtain ⟨s2,h2⟩:∃ q,(aS s s.phase r (if p=true∧b.colour<7 then s.colour+1 else s.colour) fo s.ay)=q:=⟨_,rfl⟩;have Ot:=hide (ajy HR.out HF.out HP.out HQ.out h2);have H2:=hide h2
       have ht2:s2.turn=0∨s2.turn=1:=by rw [← h2];exact ht
       clear h2 Qa P9;have P9:=(hL.get 1 rfl).cell (j:=6) rfl;have Md:_=some (Value.int .i64 s.colour):=(hL.get 0 rfl).cell (j:=6) rfl;obtain ⟨y7,hy7⟩:∃ q,(p && decide (b.colour<7))=q:=⟨_,rfl⟩;have HY7:=hide hy7;clear hy7
       go_upto_region 11 with (fail)
       go_cut [60] from 55 to 61 (fun v60 wx=>v60= .bool y7∧Bx w wx (Fz w b e v (aS s s.phase r s.colour fo s.ay)))
       case first=>
        cases p
        · have HX:=hide (show false=y7 by rw [← HY7.out];rfl)
          go_wp2;go_meet;exact ⟨congrArg _ HX.out,hL⟩
        · rcases hd7:decide (b.colour<7) with _ | _
          all_goals
           have HX:=hide (show _=y7 by rw [← HY7.out,hd7,Bool.true_and]);go_wp2;go_meet;exact ⟨congrArg _ HX.out,hL⟩
       case rest=>
        obtain ⟨rfl,hL⟩:=hcut;clear P9 Md;have Md:_=some (Value.int .i64 s.colour):=(hL.get 0 rfl).cell (j:=6) rfl;have WM:=(hL.get 0 rfl).frozen 6
        go_upto_if 60 with (fail)
        go_cut [] from 61 to 65 (fun wx=>Bx w wx (Fz w b e v s2))
        case first=>
         cases y7
         · have hx:(aS s s.phase r s.colour fo s.ay)=s2:=by have h:=HY7.out;rw [← H2.out,if_neg];rintro ⟨h1,h2⟩;rw [h1,decide_eq_true h2] at h;cases h
           have HX:=hide hx;clear hx;go_wp2;go_meet;rw [← HX.out];exact hL
         · have hx:(aS s s.phase r (s.colour+1) fo s.ay)=s2:=by have h:=HY7.out;rw [Bool.and_eq_true] at h;rw [← H2.out,if_pos ⟨h.1,of_decide_eq_true h.2⟩]
           have HX:=hide hx;clear hx;have hE:Bx w (wc.setCell ⟨w.heap.size+1,6,none⟩ (.int .i64 (s.colour+1))) (Fz w b e v (aS s s.phase r (s.colour+1) fo s.ay)):=hL.set 6 _;go_wp2;go_meet;rw [← HX.out];exact hE
        case rest=>
         have hL:=hcut;clear hcut H2 Md WM;have P9:=(hL.get 1 rfl).cell (j:=6) rfl;have Qa:=(hL.get 3 rfl).cell (j:=1) rfl;obtain ⟨c7,hc7⟩:∃ q,decide (b.colour=7∧(p=true∨0<v.gU))=q:=⟨_,rfl⟩;have ZP:=hide hc7;clear hc7
         go_upto_region 13 with (fail)
         go_cut [75] from 65 to 76 (fun v75 wx=>v75= .bool c7∧Bx w wx (Fz w b e v s2))
         case first=>
          rcases hb7:(b.colour == 7) with _ | _
          · have IW:¬ b.colour=7:=by simpa using hb7
            have HX:=hide (show false=c7 by rw [← ZP.out];simp [IW]);clear IW;go_wp2;go_meet;exact ⟨congrArg _ HX.out,hL⟩
          · have IW:b.colour=7:=by simpa using hb7
            cases p
            · rcases hv:decide (0<v.gU) with _ | _
              all_goals
               have HX:=hide (show _=c7 by rw [← ZP.out,decide_eq_decide.2 (show (b.colour=7∧(false=true∨0<v.gU))↔0<v.gU by simp [IW]),hv]);clear IW;go_wp2;go_meet;exact ⟨congrArg _ HX.out,hL⟩
            · have HX:=hide (show true=c7 by rw [← ZP.out];simp [IW])
              clear IW;go_wp2;go_meet;exact ⟨congrArg _ HX.out,hL⟩
         case rest=>
          obtain ⟨rfl,hL⟩:=hcut;clear P9 Qa
          cases c7
          · have HM:=hide (show Sk.eG b s e.x v=s2 by rw [Ot.out];exact if_neg (of_decide_eq_false ZP.out))
            go_wp2_with (first | ((with_reducible refine bJ 39 5 ?_);refine ig (hL.rn 0 0 (aC s2)) Tryz.underlying39 aJ ?_) | ((with_reducible refine isS 39 8 86 ?_);refine fU (hL.get 4 rfl) (aC s2) aJ (aT _) ?_))
            have hZ:=hL.tail.tail.tail.tail.put (aC s2) rfl;refine bodyPost_ret (aI (p:=8) (hZ.get 0 rfl) Tryz.underlying39 rfl aJ rfl _ rfl) rfl ⟨?_,hZ.bw⟩;rw [HM.out];rfl
          · have HM1:=hide (Ot.out.trans (if_pos (of_decide_eq_true ZP.out)))
            obtain ⟨ld,hld⟩:∃ q,Sk.leader s2=q:=⟨_,rfl⟩;have Xj:=hide hld;clear hld
            by_cases hl2:ld<2
            · have hdl:decide (ld<2)=true:=decide_eq_true hl2
              have HM:=hide (show Sk.eG b s e.x v=(aS s2 s2.phase s2.aY s2.colour false ld) by have h:=HM1.out;rw [Xj.out,if_pos hl2] at h;exact h);clear hl2
              go_upto_region 15 with (first | ((with_reducible refine bJ 39 5 ?_);refine ig (hL.rn 0 0 (aC s2)) Tryz.underlying39 aJ ?_) | (go_at_call 89;refine (lU s2 _).mono ?_;rw [Xj.out];rintro e1 w5 ⟨rfl,hb5⟩;have hL:=hL.call hb5;have h12:=(hL.get 0 rfl).cell (j:=12) rfl;have xE:=(hL.get 0 rfl).frozen 12;have h8:=(hL.get 0 rfl).cell (j:=8) rfl;have hf8:=(hL.get 0 rfl).frozen 8))
              go_cut [] from 76 to 83 (fun wx=>Bx w wx (Fz w b e v (aS s2 s2.phase s2.aY s2.colour false ld)))
              case first=>
               go_wp2_with (first | ((with_reducible refine bJ 39 5 ?_);refine ig (hL.rn 0 0 (aC s2)) Tryz.underlying39 aJ ?_) | (go_at_call 89;refine (lU s2 _).mono ?_;rw [Xj.out];rintro e1 w5 ⟨rfl,hb5⟩;have hL:=hL.call hb5;have h12:=(hL.get 0 rfl).cell (j:=12) rfl;have xE:=(hL.get 0 rfl).frozen 12;have h8:=(hL.get 0 rfl).cell (j:=8) rfl;have hf8:=(hL.get 0 rfl).frozen 8))
               go_meet;exact (hL.set 12 (.int .i64 ld)).set 8 (.bool false)
              case rest=>
               have hL:=hcut;clear hcut
               go_wp2_with (first | ((with_reducible refine bJ 39 5 ?_);refine ig (hL.rn 0 0 (aC (aS s2 s2.phase s2.aY s2.colour false ld))) Tryz.underlying39 aJ ?_) | ((with_reducible refine isS 39 8 86 ?_);refine fU (hL.get 4 rfl) (aC (aS s2 s2.phase s2.aY s2.colour false ld)) aJ (aT _) ?_))
               have hZ:=hL.tail.tail.tail.tail.put (aC (aS s2 s2.phase s2.aY s2.colour false ld)) rfl;refine bodyPost_ret (aI (p:=8) (hZ.get 0 rfl) Tryz.underlying39 rfl aJ rfl _ rfl) rfl ⟨?_,hZ.bw⟩;rw [HM.out];rfl
            · have hdl:decide (ld<2)=false:=decide_eq_false hl2
              cases p
              · have HM:=hide (show Sk.eG b s e.x v=s2 by have h:=HM1.out;rw [Xj.out,if_neg hl2] at h;exact h)
                clear hl2
                go_upto_region 16 with (first | ((with_reducible refine bJ 39 5 ?_);refine ig (hL.rn 0 0 (aC s2)) Tryz.underlying39 aJ ?_) | (go_at_call 89;refine (lU s2 _).mono ?_;rw [Xj.out];rintro e1 w5 ⟨rfl,hb5⟩;have hL:=hL.call hb5;have h12:=(hL.get 0 rfl).cell (j:=12) rfl;have xE:=(hL.get 0 rfl).frozen 12;have h8:=(hL.get 0 rfl).cell (j:=8) rfl;have hf8:=(hL.get 0 rfl).frozen 8))
                go_wp2_with (first | ((with_reducible refine bJ 39 5 ?_);refine ig (hL.rn 0 0 (aC s2)) Tryz.underlying39 aJ ?_) | ((with_reducible refine isS 39 8 86 ?_);refine fU (hL.get 4 rfl) (aC s2) aJ (aT _) ?_))
                have hZ:=hL.tail.tail.tail.tail.put (aC s2) rfl;refine bodyPost_ret (aI (p:=8) (hZ.get 0 rfl) Tryz.underlying39 rfl aJ rfl _ rfl) rfl ⟨?_,hZ.bw⟩;rw [HM.out];rfl
              · have HM:=hide (show Sk.eG b s e.x v=Sk.pass s2 by have h:=HM1.out;rw [Xj.out,if_neg hl2] at h;exact h)
                clear hl2
                go_upto_region 17 with (first | ((with_reducible refine bJ 39 5 ?_);refine ig (hL.rn 0 0 (aC s2)) Tryz.underlying39 aJ ?_) | (go_at_call 89;refine (lU s2 _).mono ?_;rw [Xj.out];rintro e1 w5 ⟨rfl,hb5⟩;have hL:=hL.call hb5;have h12:=(hL.get 0 rfl).cell (j:=12) rfl;have xE:=(hL.get 0 rfl).frozen 12;have h8:=(hL.get 0 rfl).cell (j:=8) rfl;have hf8:=(hL.get 0 rfl).frozen 8))
                go_cut [] from 76 to 86 (fun wx=>Bx w wx (Fz w b e v (Sk.pass s2)))
                case first=>
                 go_wp2_with (first | ((with_reducible refine bJ 39 5 ?_);refine ig (hL.rn 0 0 (aC s2)) Tryz.underlying39 aJ ?_) | (go_at_call 86;refine (rH s2 ht2 _).mono ?_;rintro e1 w1 ⟨rfl,hb1⟩;have hL:=hL.call hb1) | ((with_reducible refine isS 39 5 85 ?_);refine fU (hL.get 0 rfl) (aC (Sk.pass s2)) aJ (aT _) ?_))
                 go_meet;exact hL.put (aC (Sk.pass s2)) rfl
                case rest=>
                 have hL:=hcut;clear hcut
                 go_wp2_with (first | ((with_reducible refine bJ 39 5 ?_);refine ig (hL.rn 0 0 (aC (Sk.pass s2))) Tryz.underlying39 aJ ?_) | ((with_reducible refine isS 39 8 86 ?_);refine fU (hL.get 4 rfl) (aC (Sk.pass s2)) aJ (aT _) ?_))
                 have hZ:=hL.tail.tail.tail.tail.put (aC (Sk.pass s2)) rfl;refine bodyPost_ret (aI (p:=8) (hZ.get 0 rfl) Tryz.underlying39 rfl aJ rfl _ rfl) rfl ⟨?_,hZ.bw⟩;rw [HM.out];rfl
    · have HP:=hide hpf
      have EK:=wf hpf
      have X6:(b.phase.toList != [102,105,110,97,108])=true:=by rw [bne,EK];rfl
      clear hpf;have aBu:_=some (Value.int .i64 r):=(hL.get 0 rfl).cell (j:=5) rfl;have afl:_=some (Value.string s.phase):=(hL.get 0 rfl).cell (j:=4) rfl;have Md:_=some (Value.int .i64 s.colour):=(hL.get 0 rfl).cell (j:=6) rfl;have axw:=(hL.get 0 rfl).frozen 4;have WM:=(hL.get 0 rfl).frozen 6;have aBI:=(hL.get 3 rfl).cell (j:=0) rfl
      go_upto_region 5 with (fail)
      rcases hrd:(b.phase.toList == [114,101,100]) with _ | _
      · have HC:=hide (show ¬ (b.phase=Sk.fM∧0<v.points) from fun h=>by rw [wt h.1] at hrd;cases hrd)
        by_cases h0:0<r
        · have hd0:decide (0<r)=true:=decide_eq_true h0
          have HM:=hide (show Sk.eG b s e.x v=(aS s Sk.fM r s.colour fo s.ay) by rw [Hf HR.out HF.out HP.out,if_neg HC.out,if_pos h0]);clear h0;have hE:Bx w (wc.setCell ⟨w.heap.size+1,4,none⟩ (.string Sk.fM)) (Fz w b e v (aS s Sk.fM r s.colour fo s.ay)):=hL.set 4 _
          go_wp2_with (first | ((with_reducible refine bJ 39 5 ?_);refine ig (hE.rn 0 0 (aC (aS s Sk.fM r s.colour fo s.ay))) Tryz.underlying39 aJ ?_) | ((with_reducible refine isS 39 8 41 ?_);refine fU (hE.get 4 rfl) (aC (aS s Sk.fM r s.colour fo s.ay)) aJ (aT _) ?_))
          have hZ:=hE.tail.tail.tail.tail.put (aC (aS s Sk.fM r s.colour fo s.ay)) rfl;refine bodyPost_ret (aI (p:=8) (hZ.get 0 rfl) Tryz.underlying39 rfl aJ rfl _ rfl) rfl ⟨?_,hZ.bw⟩;rw [HM.out];rfl
        · have hd0:decide (0<r)=false:=decide_eq_false h0
          have HM:=hide (show Sk.eG b s e.x v=(aS s Sk.bH r 2 fo s.ay) by rw [Hf HR.out HF.out HP.out,if_neg HC.out,if_neg h0]);clear h0;have hE1:Bx w (wc.setCell ⟨w.heap.size+1,4,none⟩ (.string Sk.bH)) (Fz w b e v (aS s Sk.bH r s.colour fo s.ay)):=hL.set 4 _;have hE:Bx w ((wc.setCell ⟨w.heap.size+1,4,none⟩ (.string Sk.bH)).setCell ⟨w.heap.size+1,6,none⟩ (.int .i64 2)) (Fz w b e v (aS s Sk.bH r 2 fo s.ay)):=hE1.set 6 _
          go_wp2_with (first | ((with_reducible refine bJ 39 5 ?_);refine ig (hE.rn 0 0 (aC (aS s Sk.bH r 2 fo s.ay))) Tryz.underlying39 aJ ?_) | ((with_reducible refine isS 39 8 41 ?_);refine fU (hE.get 4 rfl) (aC (aS s Sk.bH r 2 fo s.ay)) aJ (aT _) ?_))
          have hZ:=hE.tail.tail.tail.tail.put (aC (aS s Sk.bH r 2 fo s.ay)) rfl;refine bodyPost_ret (aI (p:=8) (hZ.get 0 rfl) Tryz.underlying39 rfl aJ rfl _ rfl) rfl ⟨?_,hZ.bw⟩;rw [HM.out];rfl
      · have Ya:b.phase=Sk.fM:=by rw [fB] at hrd;exact of_decide_eq_true hrd
        by_cases hpt:0<v.points
        · have hdp:decide (0<v.points)=true:=decide_eq_true hpt
          have HC:=hide (And.intro Ya hpt);clear hpt Ya;have HM:=hide (show Sk.eG b s e.x v=(aS s Sk.dA r s.colour fo s.ay) by rw [Hf HR.out HF.out HP.out,if_pos HC.out]);have hE:Bx w (wc.setCell ⟨w.heap.size+1,4,none⟩ (.string Sk.dA)) (Fz w b e v (aS s Sk.dA r s.colour fo s.ay)):=hL.set 4 _
          go_wp2_with (first | ((with_reducible refine bJ 39 5 ?_);refine ig (hE.rn 0 0 (aC (aS s Sk.dA r s.colour fo s.ay))) Tryz.underlying39 aJ ?_) | ((with_reducible refine isS 39 8 41 ?_);refine fU (hE.get 4 rfl) (aC (aS s Sk.dA r s.colour fo s.ay)) aJ (aT _) ?_))
          have hZ:=hE.tail.tail.tail.tail.put (aC (aS s Sk.dA r s.colour fo s.ay)) rfl;refine bodyPost_ret (aI (p:=8) (hZ.get 0 rfl) Tryz.underlying39 rfl aJ rfl _ rfl) rfl ⟨?_,hZ.bw⟩;rw [HM.out];rfl
        · have hdp:decide (0<v.points)=false:=decide_eq_false hpt
          have HC:=hide (show ¬ (b.phase=Sk.fM∧0<v.points) from fun h=>hpt h.2);clear hpt Ya
          by_cases h0:0<r
          · have hd0:decide (0<r)=true:=decide_eq_true h0
            have HM:=hide (show Sk.eG b s e.x v=(aS s Sk.fM r s.colour fo s.ay) by rw [Hf HR.out HF.out HP.out,if_neg HC.out,if_pos h0]);clear h0;have hE:Bx w (wc.setCell ⟨w.heap.size+1,4,none⟩ (.string Sk.fM)) (Fz w b e v (aS s Sk.fM r s.colour fo s.ay)):=hL.set 4 _
            go_wp2_with (first | ((with_reducible refine bJ 39 5 ?_);refine ig (hE.rn 0 0 (aC (aS s Sk.fM r s.colour fo s.ay))) Tryz.underlying39 aJ ?_) | ((with_reducible refine isS 39 8 41 ?_);refine fU (hE.get 4 rfl) (aC (aS s Sk.fM r s.colour fo s.ay)) aJ (aT _) ?_))
            have hZ:=hE.tail.tail.tail.tail.put (aC (aS s Sk.fM r s.colour fo s.ay)) rfl;refine bodyPost_ret (aI (p:=8) (hZ.get 0 rfl) Tryz.underlying39 rfl aJ rfl _ rfl) rfl ⟨?_,hZ.bw⟩;rw [HM.out];rfl
          · have hd0:decide (0<r)=false:=decide_eq_false h0
            have HM:=hide (show Sk.eG b s e.x v=(aS s Sk.bH r 2 fo s.ay) by rw [Hf HR.out HF.out HP.out,if_neg HC.out,if_neg h0]);clear h0;have hE1:Bx w (wc.setCell ⟨w.heap.size+1,4,none⟩ (.string Sk.bH)) (Fz w b e v (aS s Sk.bH r s.colour fo s.ay)):=hL.set 4 _;have hE:Bx w ((wc.setCell ⟨w.heap.size+1,4,none⟩ (.string Sk.bH)).setCell ⟨w.heap.size+1,6,none⟩ (.int .i64 2)) (Fz w b e v (aS s Sk.bH r 2 fo s.ay)):=hE1.set 6 _
            go_wp2_with (first | ((with_reducible refine bJ 39 5 ?_);refine ig (hE.rn 0 0 (aC (aS s Sk.bH r 2 fo s.ay))) Tryz.underlying39 aJ ?_) | ((with_reducible refine isS 39 8 41 ?_);refine fU (hE.get 4 rfl) (aC (aS s Sk.bH r 2 fo s.ay)) aJ (aT _) ?_))
            have hZ:=hE.tail.tail.tail.tail.put (aC (aS s Sk.bH r 2 fo s.ay)) rfl;refine bodyPost_ret (aI (p:=8) (hZ.get 0 rfl) Tryz.underlying39 rfl aJ rfl _ rfl) rfl ⟨?_,hZ.bw⟩;rw [HM.out];rfl
def KZ (w:World) (g:Sk.Game) (s:Sk.State) (e:En) (v:Sk.dI) (B7 B8:Nat) (t:Sk.State):List (Nat × List Value × TypeId):=[(w.heap.size+1,aC t,39),(B8,dV v,91),(B7,aC s,39),(w.heap.size,bK g,28),(w.heap.size+2,dn e,85),(w.heap.size+3,aC Sk.zero,39)]
def VH (s:Sk.State) (a b k:Int):Sk.State:=⟨s.turn,a,b,k,s.phase,s.aY,s.colour,false,false,s.aO,s.t0,s.t1,s.ay⟩
def ZG (s:Sk.State) (k:Int):Sk.State:=⟨s.turn,s.s0,s.s1,s.brk,s.phase,s.aY,s.colour,s.free,s.aN,k,s.t0,s.t1,s.ay⟩
theorem Bx.aga {w W:World} {p q:Nat × List Value × TypeId} {L:List (Nat × List Value × TypeId)} (h:Bx w W (p::q::L)):q.1≠p.1:=fun e=>(List.pairwise_cons.1 h.nd).1 q (List.mem_cons_self ..) e.symm
theorem rnx {g:Sk.Game} {s:Sk.State} {e:Sk.Entry} {v:Sk.dI} {s3 s4 s5:Sk.State} (h1:¬ e.kind=Sk.gu) (h2:¬ e.kind=Sk.iI) (h3:¬ e.kind=Sk.fJ) (hv:Sk.iQ g s e=v) (e3:Sk.iT s v=s3)
 (e4:(if g.kind=Sk.bT then (if Sk.eU s3 e then ZG s3 0 else if 0<v.points then ZG s3 (s3.aO+1) else s3) else s3)=s4) (e5:(if v.stays then s4 else Sk.pass s4)=s5):
 Sk.uz g s e=if g.kind=Sk.fC then Sk.fG g s3 v else if g.kind=Sk.aK then Sk.eG s s5 e v else if g.target≤max s5.s0 s5.s1 then cW s5 (Sk.leader s5) else s5:=by
 subst hv e3 e4 e5
 unfold Sk.uz
 rw [if_neg h1,if_neg h2,if_neg h3]
 rfl
theorem JW (S:Nat→Prop) (g:Sk.Game) (s:Sk.State) (e:En) (w:World) (ht:s.turn=0∨s.turn=1) (hc:0≤s.colour∧s.colour≤7) (hr:0≤s.aY∧s.aY≤15) (hk:0≤s.aO∧s.aO≤5) (hs0:0≤s.s0∧s.s0≤99999) (hs1:0≤s.s1∧s.s1≤99999) (hbk:0≤s.brk∧s.brk≤99999) (hta:0≤s.t0∧s.t0≤100) (htb:0≤s.t1∧s.t1≤100)
 (hsh:¬ e.x.kind=Sk.gu→¬ e.x.kind=Sk.iI→¬ e.x.kind=Sk.fJ→(0≤(Sk.iQ g s e.x).points∧(Sk.iQ g s e.x).points≤99999)∧(0≤(Sk.iQ g s e.x).penalty∧(Sk.iQ g s e.x).penalty≤99999)) (he:iL w S e):
 Calls Tryz.prog 50 #[lX g,jE s,rU e] w fun e_ w'=>e_= .returned (jE (Sk.uz g s e.x))∧Below w.heap.size w w':=by
 have hwt:IntKind.i64.wrap (1 - s.turn)=1 - s.turn:=by rw [IntKind.wrap_i64];omega
 go_enter Tryz.func50,Tryz.ntmps50
 go_upto_region 0 with (fail)
 go_cut [3,4,5,6] (fun v3 v4 v5 v6 wx=>v3=ptr (w.heap.size)∧v4=ptr (w.heap.size+1)∧v5=ptr (w.heap.size+2)∧v6=ptr (w.heap.size+3)∧Bx w wx [(w.heap.size,bK g,28),(w.heap.size+1,aC s,39),(w.heap.size+2,dn e,85),(w.heap.size+3,aC Sk.zero,39)])
 case first=>
  go_wp2;go_meet;exact ⟨rfl,rfl,rfl,rfl,Bx.of (((((aG.nil w).new (by simp) (bK g) 28).new (by simp) (aC s) 39).new (by simp) (dn e) 85).new (by simp) (aC Sk.zero) 39) _ rfl⟩
 case rest=>
  obtain ⟨rfl,rfl,rfl,rfl,hL⟩:=hcut;have hL:=hL.swap
  go_upto_region 1 with (fail)
  go_cut [7] from 9 to 10 (fun v7 wx=>∃ B7,v7=ptr B7∧Bx w wx [(w.heap.size+1,aC s,39),(B7,aC s,39),(w.heap.size,bK g,28),(w.heap.size+2,dn e,85),(w.heap.size+3,aC Sk.zero,39)])
  case first=>
   have hZ:=hL.add (aC Sk.zero) 39
   go_wp2_with (first | ((with_reducible refine bJ 39 4 ?_);refine ig (hL.rn 0 0 (aC s)) Tryz.underlying39 aJ ?_) | ((with_reducible refine isS 39 7 9 ?_);refine fU (hZ.get 0 rfl) (aC s) aJ (aT _) ?_))
   go_meet;exact ⟨_,rfl,(hZ.put (aC s) rfl).swap⟩
  case rest=>
   obtain ⟨B7,rfl,hL⟩:=hcut
   go_upto_region 2 with (fail)
   go_cut [] from 10 to 12 (fun wx=>Bx w wx [(w.heap.size+1,aC (nS s false false s.ay),39),(B7,aC s,39),(w.heap.size,bK g,28),(w.heap.size+2,dn e,85),(w.heap.size+3,aC Sk.zero,39)])
   case first=>
    have k7:=(hL.get 0 rfl).cell (j:=7) rfl;have k7f:=(hL.get 0 rfl).frozen 7;have k8:=(hL.get 0 rfl).cell (j:=8) rfl;have k8f:=(hL.get 0 rfl).frozen 8;have hE:=(hL.set 7 (.bool false)).set 8 (.bool false);go_wp2;go_meet;exact hE
   case rest=>
    have hL:=hcut;clear hcut;have ke:=(hL.get 3 rfl).cell (j:=0) rfl
    by_cases h1:e.x.kind=Sk.gu
    · have h11:=wt h1
      have HM:=hide (show Sk.uz g s e.x=(Sk.pass (nS s false false s.ay)) by unfold Sk.uz;rw [if_pos h1];rfl);clear h1
      go_wp2_with (first | ((with_reducible refine bJ 39 4 ?_);refine ig (hL.rn 0 0 (aC (nS s false false s.ay))) Tryz.underlying39 aJ ?_) | (go_at_call 86;refine (rH (nS s false false s.ay) ht _).mono ?_;rintro e1 w1 ⟨rfl,hb1⟩;have hL:=hL.call hb1) | ((with_reducible refine isS 39 6 17 ?_);refine fU (hL.get 4 rfl) (aC (Sk.pass (nS s false false s.ay))) aJ (aT _) ?_))
      have hZ:=hL.tail.tail.tail.tail.put (aC (Sk.pass (nS s false false s.ay))) rfl;refine bodyPost_ret (aI (p:=6) (hZ.get 0 rfl) Tryz.underlying39 rfl aJ rfl _ rfl) rfl ⟨?_,hZ.bw⟩;rw [HM.out];rfl
    · have h11:=wf h1
      by_cases h2:e.x.kind=Sk.iI
      · have h21:=wt h2
        have HM:=hide (show Sk.uz g s e.x=(nS s true false s.ay) by unfold Sk.uz;rw [if_neg h1,if_pos h2];rfl);clear h1 h2;have k7:=(hL.get 0 rfl).cell (j:=7) rfl;have k7f:=(hL.get 0 rfl).frozen 7;have hE:=hL.set 7 (.bool true)
        go_wp2_with (first | ((with_reducible refine bJ 39 4 ?_);refine ig (hE.rn 0 0 (aC (nS s true false s.ay))) Tryz.underlying39 aJ ?_) | ((with_reducible refine isS 39 6 21 ?_);refine fU (hE.get 4 rfl) (aC (nS s true false s.ay)) aJ (aT _) ?_))
        have hZ:=hE.tail.tail.tail.tail.put (aC (nS s true false s.ay)) rfl;refine bodyPost_ret (aI (p:=6) (hZ.get 0 rfl) Tryz.underlying39 rfl aJ rfl _ rfl) rfl ⟨?_,hZ.bw⟩;rw [HM.out];rfl
      · have h21:=wf h2
        by_cases h3:e.x.kind=Sk.fJ
        · have h31:=wt h3
          have HM:=hide (show Sk.uz g s e.x=(nS s false false (1 - s.turn)) by unfold Sk.uz;rw [if_neg h1,if_neg h2,if_pos h3];rfl);clear h1 h2 h3;have k0:_=some (Value.int .i64 s.turn):=(hL.get 0 rfl).cell (j:=0) rfl;have k12:=(hL.get 0 rfl).cell (j:=12) rfl;have apF:=(hL.get 0 rfl).frozen 12;have hE:=hL.set 12 (.int .i64 (1 - s.turn))
          go_wp2_with (first | ((with_reducible refine bJ 39 4 ?_);refine ig (hE.rn 0 0 (aC (nS s false false (1 - s.turn)))) Tryz.underlying39 aJ ?_) | ((with_reducible refine isS 39 6 28 ?_);refine fU (hE.get 4 rfl) (aC (nS s false false (1 - s.turn))) aJ (aT _) ?_))
          have hZ:=hE.tail.tail.tail.tail.put (aC (nS s false false (1 - s.turn))) rfl;refine bodyPost_ret (aI (p:=6) (hZ.get 0 rfl) Tryz.underlying39 rfl aJ rfl _ rfl) rfl ⟨?_,hZ.bw⟩;rw [HM.out];rfl
        · have h31:=wf h3
          have HN1:=hide h1;have HN2:=hide h2;have HN3:=hide h3;clear h1 h2 h3;have hvb:=hsh HN1.out HN2.out HN3.out;obtain ⟨v,hv⟩:∃ v,Sk.iQ g s e.x=v:=⟨_,rfl⟩;rw [hv] at hvb;obtain ⟨hv1,hv2⟩:=hvb;have HV:=hide hv;have hjc:=fun W h=>wI S g s e ht hc W h;rw [hv] at hjc;have HJ:=hide hjc;clear hjc hv hsh
          go_upto_region 12 with (fail)
          go_cut [8] from 29 to 33 (fun v8 wx=>∃ B8,v8=ptr B8∧Bx w wx (KZ w g s e v B7 B8 (nS s false false s.ay)))
          case first=>
           go_wp2_with (first | ((with_reducible refine bJ 28 3 ?_);refine ig (hL.rn 2 0 (bK g)) Tryz.underlying28 dP ?_) | ((with_reducible refine bJ 39 7 ?_);refine ig (hL.rn 1 0 (aC s)) Tryz.underlying39 aJ ?_) | ((with_reducible refine bJ 85 5 ?_);refine ig (hL.rn 3 0 (dn e)) Tryz.underlying85 fE ?_) | (go_at_call 49;refine (HJ.out _ (he.below hL.bw)).mono ?_;rintro e1 w1 ⟨rfl,hb1⟩;have hL:=(hL.call hb1).add (dV ⟨0,0,0,false⟩) 91) | ((with_reducible refine isS 91 8 32 ?_);refine fU (hL.get 0 rfl) (dV v) fP (fZ _) ?_))
           go_meet;exact ⟨_,rfl,(hL.put (dV v) rfl).swap⟩
          case rest=>
           obtain ⟨B8,rfl,hL⟩:=hcut;obtain ⟨a1,ha1⟩:∃ q,(s.s0+if s.turn=0 then v.points else 0)=q:=⟨_,rfl⟩;obtain ⟨b1,hb1⟩:∃ q,(s.s1+if s.turn=0 then 0 else v.points)=q:=⟨_,rfl⟩;obtain ⟨a2,ha2⟩:∃ q,(a1+if s.turn=0 then 0 else v.penalty)=q:=⟨_,rfl⟩;obtain ⟨b2,hb2⟩:∃ q,(b1+if s.turn=0 then v.penalty else 0)=q:=⟨_,rfl⟩;obtain ⟨s3,hs3⟩:∃ q,VH s a2 b2 (s.brk+v.points)=q:=⟨_,rfl⟩
           have e3:Sk.iT s v=s3:=by
            rw [← hs3, ← ha2, ← hb2, ← ha1, ← hb1]
            unfold Sk.iT VH
            by_cases hh:s.turn=0
            · simp [hh]
            · simp [hh]
           have E3:=hide e3;have A1:=hide ha1;have B1:=hide hb1;have A2:=hide ha2;have B2:=hide hb2
           have hab:(a1=s.s0∨a1=s.s0+v.points)∧(b1=s.s1∨b1=s.s1+v.points):=by
            rw [← ha1, ← hb1]
            by_cases hh:s.turn=0 <;> simp [hh]
           clear ha1 hb1 ha2 hb2 e3
           go_upto_region 13 with (fail)
           go_cut [] from 33 to 45 (fun wx=>Bx w wx (KZ w g s e v B7 B8 (VH s a1 b1 s.brk)))
           case first=>
            have hne:=hL.aga
            have hw0:IntKind.i64.wrap 0=0:=by kernel_rfl
            have hw1:IntKind.i64.wrap 1=1:=by kernel_rfl
            have ht0:=ht
            rcases ht0 with ht' | ht'
            · have E1:=hide (show s.s0+v.points=a1 by rw [← A1.out,ht'];simp)
              have E2:=hide (show s.s1=b1 by rw [← B1.out,ht'];simp);have k0:wc.cell? ⟨w.heap.size+1,0,none⟩=some (.int .i64 0):=((hL.get 0 rfl).cell (j:=0) rfl).trans (by rw [← ht'];rfl);have k8:wc.cell? ⟨B8,0,none⟩=some (.int .i64 v.points):=(hL.get 1 rfl).cell (j:=0) rfl;have ks:wc.cell? ⟨w.heap.size+1,1,none⟩=some (.int .i64 s.s0):=(hL.get 0 rfl).cell (j:=1) rfl;have Zu:=(hL.get 0 rfl).frozen 1
              have hwr:IntKind.i64.wrap ((s.s0+v.points))=(s.s0+v.points):=by rw [IntKind.wrap_i64];omega
              have hE:Bx w ((wc.drewN 1).setCell ⟨w.heap.size+1,1,none⟩ (.int .i64 (s.s0+v.points))) (KZ w g s e v B7 B8 (VH s (s.s0+v.points) s.s1 s.brk)):=(hL.drewN 1).set 1 _;refine wp_region_held_drew (S:=(fun w':World=>w'.cell? ⟨w.heap.size+1,0,none⟩=some (.int .i64 0)∧w'.cell? ⟨B8,0,none⟩=some (.int .i64 v.points))) (by kernel_rfl) ?bg (fun hHeld=>?_)
              case bg=>exact ⟨k0,k8⟩
              refine tk 0 ?_;refine tk 1 ?_;refine tk 2 ?_;refine tk 3 ?_;refine tk 4 ?_;refine tk 5 ?_;refine tk 7 ?_;refine tk 8 ?_;refine tk 10 ?_;refine tr 6 fun K hK=>?_;go_simp;refine hK.out _ _ ?GZ (fun hHeld=>?_)
              case GZ=>(exact ⟨k0,k8⟩)
              clear hK K
              try simp only [Act.put,la,lz,ls]
              refine tk 9 ?_;refine tk 11 ?_;refine tr 12 fun K hK=>?_;go_simp;refine hK.out _ _ ?Yw (fun hHeld=>?_)
              case Yw=>(exact ⟨(World.cell?_setCell_other _ _ _ _ (by intro h;simp at h)).trans k0,(World.cell?_setCell_other _ _ _ _ (by intro h;exact hne (congrArg Addr.block h).symm)).trans k8⟩)
              clear hK K
              try simp only [Act.put,la,lz,ls]
              refine wpAnyH_done (by kernel_rfl) ?_ _;go_wp2;go_meet;rw [← E1.out, ← E2.out];exact hE
            · have E1:=hide (show s.s0=a1 by rw [← A1.out,ht'];simp)
              have E2:=hide (show s.s1+v.points=b1 by rw [← B1.out,ht'];simp);have k0:wc.cell? ⟨w.heap.size+1,0,none⟩=some (.int .i64 1):=((hL.get 0 rfl).cell (j:=0) rfl).trans (by rw [← ht'];rfl);have k8:wc.cell? ⟨B8,0,none⟩=some (.int .i64 v.points):=(hL.get 1 rfl).cell (j:=0) rfl;have ks:wc.cell? ⟨w.heap.size+1,2,none⟩=some (.int .i64 s.s1):=(hL.get 0 rfl).cell (j:=2) rfl;have Zu:=(hL.get 0 rfl).frozen 2
              have hwr:IntKind.i64.wrap ((s.s1+v.points))=(s.s1+v.points):=by rw [IntKind.wrap_i64];omega
              have hE:Bx w ((wc.drewN 1).setCell ⟨w.heap.size+1,2,none⟩ (.int .i64 (s.s1+v.points))) (KZ w g s e v B7 B8 (VH s s.s0 (s.s1+v.points) s.brk)):=(hL.drewN 1).set 2 _;refine wp_region_held_drew (S:=(fun w':World=>w'.cell? ⟨w.heap.size+1,0,none⟩=some (.int .i64 1)∧w'.cell? ⟨B8,0,none⟩=some (.int .i64 v.points))) (by kernel_rfl) ?bV (fun hHeld=>?_)
              case bV=>exact ⟨k0,k8⟩
              refine tk 0 ?_;refine tk 1 ?_;refine tk 2 ?_;refine tk 3 ?_;refine tk 4 ?_;refine tk 5 ?_;refine tk 7 ?_;refine tk 8 ?_;refine tk 10 ?_;refine tr 6 fun K hK=>?_;go_simp;refine hK.out _ _ ?xQ (fun hHeld=>?_)
              case xQ=>(exact ⟨k0,k8⟩)
              clear hK K
              try simp only [Act.put,la,lz,ls]
              refine tk 9 ?_;refine tk 11 ?_;refine tr 12 fun K hK=>?_;go_simp;refine hK.out _ _ ?Yx (fun hHeld=>?_)
              case Yx=>(exact ⟨(World.cell?_setCell_other _ _ _ _ (by intro h;simp at h)).trans k0,(World.cell?_setCell_other _ _ _ _ (by intro h;exact hne (congrArg Addr.block h).symm)).trans k8⟩)
              clear hK K
              try simp only [Act.put,la,lz,ls]
              refine wpAnyH_done (by kernel_rfl) ?_ _;go_wp2;go_meet;rw [← E1.out, ← E2.out];exact hE
           case rest=>
            have hL:=hcut;clear hcut
            go_upto_region 14 with (fail)
            go_cut [] from 45 to 59 (fun wx=>Bx w wx (KZ w g s e v B7 B8 (VH s a2 b2 s.brk)))
            case first=>
             have hne:=hL.aga
             have hw0:IntKind.i64.wrap 0=0:=by kernel_rfl
             have hw1:IntKind.i64.wrap 1=1:=by kernel_rfl
             have ht0:=ht
             rcases ht0 with ht' | ht'
             · have E1:=hide (show a1=a2 by rw [← A2.out,ht'];simp)
               have E2:=hide (show b1+v.penalty=b2 by rw [← B2.out,ht'];simp);have k0:wc.cell? ⟨w.heap.size+1,0,none⟩=some (.int .i64 0):=((hL.get 0 rfl).cell (j:=0) rfl).trans (by rw [← ht'];rfl);have k8:wc.cell? ⟨B8,2,none⟩=some (.int .i64 v.penalty):=(hL.get 1 rfl).cell (j:=2) rfl;have ks:wc.cell? ⟨w.heap.size+1,2,none⟩=some (.int .i64 b1):=(hL.get 0 rfl).cell (j:=2) rfl;have Zu:=(hL.get 0 rfl).frozen 2
               have hwr:IntKind.i64.wrap ((b1+v.penalty))=(b1+v.penalty):=by rw [IntKind.wrap_i64];omega
               have hE:Bx w ((wc.drewN 1).setCell ⟨w.heap.size+1,2,none⟩ (.int .i64 (b1+v.penalty))) (KZ w g s e v B7 B8 (VH s a1 (b1+v.penalty) s.brk)):=(hL.drewN 1).set 2 _;refine wp_region_held_drew (S:=(fun w':World=>w'.cell? ⟨w.heap.size+1,0,none⟩=some (.int .i64 0)∧w'.cell? ⟨B8,2,none⟩=some (.int .i64 v.penalty))) (by kernel_rfl) ?dJ (fun hHeld=>?_)
               case dJ=>exact ⟨k0,k8⟩
               refine tk 0 ?_;refine tk 1 ?_;refine tk 2 ?_;refine tk 3 ?_;refine tk 4 ?_;refine tk 5 ?_;refine tk 6 ?_;refine tk 7 ?_;refine tk 9 ?_;refine tk 10 ?_;refine tk 12 ?_;refine tr 8 fun K hK=>?_;go_simp;refine hK.out _ _ ?ahG (fun hHeld=>?_)
               case ahG=>(exact ⟨k0,k8⟩)
               clear hK K
               try simp only [Act.put,la,lz,ls]
               refine tk 11 ?_;refine tk 13 ?_;refine tr 14 fun K hK=>?_;go_simp;refine hK.out _ _ ?YA (fun hHeld=>?_)
               case YA=>(exact ⟨(World.cell?_setCell_other _ _ _ _ (by intro h;simp at h)).trans k0,(World.cell?_setCell_other _ _ _ _ (by intro h;exact hne (congrArg Addr.block h).symm)).trans k8⟩)
               clear hK K
               try simp only [Act.put,la,lz,ls]
               refine wpAnyH_done (by kernel_rfl) ?_ _;go_wp2;go_meet;rw [← E1.out, ← E2.out];exact hE
             · have E1:=hide (show a1+v.penalty=a2 by rw [← A2.out,ht'];simp)
               have E2:=hide (show b1=b2 by rw [← B2.out,ht'];simp);have k0:wc.cell? ⟨w.heap.size+1,0,none⟩=some (.int .i64 1):=((hL.get 0 rfl).cell (j:=0) rfl).trans (by rw [← ht'];rfl);have k8:wc.cell? ⟨B8,2,none⟩=some (.int .i64 v.penalty):=(hL.get 1 rfl).cell (j:=2) rfl;have ks:wc.cell? ⟨w.heap.size+1,1,none⟩=some (.int .i64 a1):=(hL.get 0 rfl).cell (j:=1) rfl;have Zu:=(hL.get 0 rfl).frozen 1
               have hwr:IntKind.i64.wrap ((a1+v.penalty))=(a1+v.penalty):=by rw [IntKind.wrap_i64];omega
               have hE:Bx w ((wc.drewN 1).setCell ⟨w.heap.size+1,1,none⟩ (.int .i64 (a1+v.penalty))) (KZ w g s e v B7 B8 (VH s (a1+v.penalty) b1 s.brk)):=(hL.drewN 1).set 1 _;refine wp_region_held_drew (S:=(fun w':World=>w'.cell? ⟨w.heap.size+1,0,none⟩=some (.int .i64 1)∧w'.cell? ⟨B8,2,none⟩=some (.int .i64 v.penalty))) (by kernel_rfl) ?gW (fun hHeld=>?_)
               case gW=>exact ⟨k0,k8⟩
               refine tk 0 ?_;refine tk 1 ?_;refine tk 2 ?_;refine tk 3 ?_;refine tk 4 ?_;refine tk 5 ?_;refine tk 6 ?_;refine tk 7 ?_;refine tk 9 ?_;refine tk 10 ?_;refine tk 12 ?_;refine tr 8 fun K hK=>?_;go_simp;refine hK.out _ _ ?ahU (fun hHeld=>?_)
               case ahU=>(exact ⟨k0,k8⟩)
               clear hK K
               try simp only [Act.put,la,lz,ls]
               refine tk 11 ?_;refine tk 13 ?_;refine tr 14 fun K hK=>?_;go_simp;refine hK.out _ _ ?YE (fun hHeld=>?_)
               case YE=>(exact ⟨(World.cell?_setCell_other _ _ _ _ (by intro h;simp at h)).trans k0,(World.cell?_setCell_other _ _ _ _ (by intro h;exact hne (congrArg Addr.block h).symm)).trans k8⟩)
               clear hK K
               try simp only [Act.put,la,lz,ls]
               refine wpAnyH_done (by kernel_rfl) ?_ _;go_wp2;go_meet;rw [← E1.out, ← E2.out];exact hE
            case rest=>
             have hL:=hcut;clear hcut
             go_upto_region 15 with (fail)
             go_cut [] from 59 to 65 (fun wx=>Bx w wx (KZ w g s e v B7 B8 s3))
             case first=>
              have k8:wc.cell? ⟨B8,0,none⟩=some (.int .i64 v.points):=(hL.get 1 rfl).cell (j:=0) rfl;have ks:wc.cell? ⟨w.heap.size+1,3,none⟩=some (.int .i64 s.brk):=(hL.get 0 rfl).cell (j:=3) rfl;have Zu:=(hL.get 0 rfl).frozen 3;have hE:Bx w (wc.setCell ⟨w.heap.size+1,3,none⟩ (.int .i64 (s.brk+v.points))) (KZ w g s e v B7 B8 (VH s a2 b2 (s.brk+v.points))):=hL.set 3 _;have ZQ:=hide hs3;clear hs3;go_wp2;go_meet;rw [← ZQ.out];exact hE
             case rest=>
              have hL:=hcut;clear hcut
              have h3t:s3.turn=s.turn:=by rw [← hs3];rfl
              have h3a:s3.t0=s.t0∧s3.t1=s.t1∧s3.aO=s.aO∧s3.colour=s.colour∧s3.aY=s.aY:=by rw [← hs3];exact ⟨rfl,rfl,rfl,rfl,rfl⟩
              have H3:=hide (And.intro h3t h3a)
              have ht3:s3.turn=0∨s3.turn=1:=by omega
              clear hs3 h3t h3a;obtain ⟨s4,hs4⟩:∃ q,(if g.kind=Sk.bT then (if Sk.eU s3 e.x then ZG s3 0 else if 0<v.points then ZG s3 (s3.aO+1) else s3) else s3)=q:=⟨_,rfl⟩;obtain ⟨s5,hs5⟩:∃ q,(if v.stays then s4 else Sk.pass s4)=q:=⟨_,rfl⟩;have HR:=hide (rnx HN1.out HN2.out HN3.out HV.out E3.out hs4 hs5);have H4:=hide hs4;have H5:=hide hs5
              have h4t:s4.turn=s3.turn∧s4.colour=s3.colour∧s4.aY=s3.aY∧(0≤s4.aO):=by
               have h:=H3.out;rw [← hs4]
               split
               · split
                 · exact ⟨rfl,rfl,rfl,by show (0:Int)≤0;omega⟩
                 · split
                   · exact ⟨rfl,rfl,rfl,by show (0:Int)≤s3.aO+1;omega⟩
                   · exact ⟨rfl,rfl,rfl,by omega⟩
               · exact ⟨rfl,rfl,rfl,by omega⟩
              have h5t:(s5.turn=0∨s5.turn=1)∧s5.colour=s4.colour∧s5.aY=s4.aY:=by
               rw [← hs5]
               split
               · exact ⟨by omega,rfl,rfl⟩
               · exact ⟨by show 1 - s4.turn=0∨1 - s4.turn=1;omega,rfl,rfl⟩
              have Zq:s4.turn=0∨s4.turn=1:=by omega
              have hc5:0≤s5.colour∧s5.colour≤7:=by have h:=H3.out;omega
              have hr5:0≤s5.aY∧s5.aY≤15:=by have h:=H3.out;omega
              have ht5:=h5t.1;clear hs4 hs5 h4t h5t;have kg:=(hL.get 3 rfl).cell (j:=0) rfl
              by_cases hgc:g.kind=Sk.fC
              · have aoQ:=wt hgc
                have hta:0≤s3.t0∧s3.t0≤100:=by have h:=H3.out;omega
                have htb:0≤s3.t1∧s3.t1≤100:=by have h:=H3.out;omega
                have HM:=hide (HR.out.trans (if_pos hgc));clear hgc
                go_wp2_with (first | ((with_reducible refine bJ 28 3 ?_);refine ig (hL.rn 3 0 (bK g)) Tryz.underlying28 dP ?_) | ((with_reducible refine bJ 39 4 ?_);refine ig (hL.rn 0 0 (aC s3)) Tryz.underlying39 aJ ?_) | ((with_reducible refine bJ 91 8 ?_);refine ig (hL.rn 1 0 (dV v)) Tryz.underlying91 fP ?_) | (go_at_call 87;refine (zM g s3 v _ ht3 hta htb).mono ?_;rintro e1 w2 ⟨rfl,hb2⟩;have hL:=hL.call hb2) | ((with_reducible refine isS 39 6 71 ?_);refine fU (hL.get 5 rfl) (aC (Sk.fG g s3 v)) aJ (aT _) ?_))
                have hZ:=hL.tail.tail.tail.tail.tail.put (aC (Sk.fG g s3 v)) rfl;refine bodyPost_ret (aI (p:=6) (hZ.get 0 rfl) Tryz.underlying39 rfl aJ rfl _ rfl) rfl ⟨?_,hZ.bw⟩;rw [HM.out];rfl
              · have aoQ:=wf hgc
                have HR2:=hide (HR.out.trans (if_neg hgc));clear hgc;obtain ⟨gb,hgb⟩:∃ q,(g.kind.toList == [98,105,108,108,105,97,114,100,115])=q:=⟨_,rfl⟩
                have acV:g.kind=Sk.bT↔gb=true:=by rw [← hgb,fB];simp
                have Ue:=hide acV;clear acV;obtain ⟨cn,hcn⟩:∃ q,Sk.eU s3 e.x=q:=⟨_,rfl⟩;have hcc:=fun W h=>uy S s3 ht3 e W h;rw [Sk.yC ht3,hcn] at hcc;have HC:=hide hcc;have yj:=hide hcn;clear hcc hcn
                go_upto_region 18 with (fail)
                go_cut [74] from 72 to 75 (fun v74 wx=>v74= .bool gb∧Bx w wx (KZ w g s e v B7 B8 s3))
                case first=>
                 go_wp2;go_meet;exact ⟨rfl,hL⟩
                case rest=>
                 obtain ⟨rfl,hL⟩:=hcut;clear hgb kg
                 go_upto_if 74 with (fail)
                 go_cut [] from 75 to 86 (fun wx=>Bx w wx (KZ w g s e v B7 B8 s4))
                 case first=>
                  cases gb
                  · have HX:=hide (show s3=s4 by rw [← H4.out,if_neg (by rw [Ue.out];simp)])
                    go_wp2;go_meet;rw [← HX.out];exact hL
                  · cases cn
                    · rcases hp:decide (0<v.points) with _ | _
                      · have HX:=hide (show s3=s4 by rw [← H4.out,if_pos (Ue.out.2 rfl),yj.out,if_neg (by simp),if_neg (of_decide_eq_false hp)])
                        go_wp2_with (first | ((with_reducible refine bJ 39 4 ?_);refine ig (hL.rn 0 0 (aC s3)) Tryz.underlying39 aJ ?_) | ((with_reducible refine bJ 85 5 ?_);refine ig (hL.rn 4 0 (dn e)) Tryz.underlying85 fE ?_) | (go_at_call 85;refine (HC.out _ (he.below hL.bw)).mono ?_;rintro e1 w2 ⟨rfl,hb2⟩;have hL:=hL.call hb2;have kp:=(hL.get 1 rfl).cell (j:=0) rfl))
                        go_meet;rw [← HX.out];exact hL
                      · have HX:=hide (show ZG s3 (s3.aO+1)=s4 by rw [← H4.out,if_pos (Ue.out.2 rfl),yj.out,if_neg (by simp),if_pos (of_decide_eq_true hp)])
                        have hwr:IntKind.i64.wrap (s3.aO+1)=s3.aO+1:=by have h:=H3.out;rw [IntKind.wrap_i64];omega
                        go_upto_region 22 with (first | ((with_reducible refine bJ 39 4 ?_);refine ig (hL.rn 0 0 (aC s3)) Tryz.underlying39 aJ ?_) | ((with_reducible refine bJ 85 5 ?_);refine ig (hL.rn 4 0 (dn e)) Tryz.underlying85 fE ?_) | (go_at_call 85;refine (HC.out _ (he.below hL.bw)).mono ?_;rintro e1 w2 ⟨rfl,hb2⟩;have hL:=hL.call hb2;have kp:=(hL.get 1 rfl).cell (j:=0) rfl))
                        have ks:_=some (Value.int .i64 s3.aO):=(hL.get 0 rfl).cell (j:=9) rfl;have Zu:=(hL.get 0 rfl).frozen 9;have hE:=hL.set 9 (.int .i64 (s3.aO+1));go_wp2;go_meet;rw [← HX.out];exact hE
                    · have HX:=hide (show ZG s3 0=s4 by rw [← H4.out,if_pos (Ue.out.2 rfl),yj.out,if_pos rfl])
                      go_upto_region 20 with (first | ((with_reducible refine bJ 39 4 ?_);refine ig (hL.rn 0 0 (aC s3)) Tryz.underlying39 aJ ?_) | ((with_reducible refine bJ 85 5 ?_);refine ig (hL.rn 4 0 (dn e)) Tryz.underlying85 fE ?_) | (go_at_call 85;refine (HC.out _ (he.below hL.bw)).mono ?_;rintro e1 w2 ⟨rfl,hb2⟩;have hL:=hL.call hb2))
                      have ks:=(hL.get 0 rfl).cell (j:=9) rfl;have Zu:=(hL.get 0 rfl).frozen 9;have hE:=hL.set 9 (.int .i64 0);go_wp2;go_meet;rw [← HX.out];exact hE
                 case rest=>
                  have hL:=hcut;clear hcut;have kv:_=some (Value.bool v.stays):=(hL.get 1 rfl).cell (j:=3) rfl;obtain ⟨vs,hvs⟩:∃ q,v.stays=q:=⟨_,rfl⟩;rw [hvs] at kv;have HVS:=hide hvs;clear hvs
                  go_upto_if 88 with (fail)
                  go_cut [] from 89 to 91 (fun wx=>Bx w wx (KZ w g s e v B7 B8 s5))
                  case first=>
                   cases vs
                   · have HX:=hide (show Sk.pass s4=s5 by rw [← H5.out,HVS.out,if_neg (by simp)])
                     go_wp2_with (first | ((with_reducible refine bJ 39 4 ?_);refine ig (hL.rn 0 0 (aC s4)) Tryz.underlying39 aJ ?_) | (go_at_call 86;refine (rH s4 Zq _).mono ?_;rintro e1 w2 ⟨rfl,hb2⟩;have hL:=hL.call hb2) | ((with_reducible refine isS 39 4 90 ?_);refine fU (hL.get 0 rfl) (aC (Sk.pass s4)) aJ (aT _) ?_))
                     go_meet;rw [← HX.out];exact hL.put (aC (Sk.pass s4)) rfl
                   · have HX:=hide (show s4=s5 by rw [← H5.out,HVS.out,if_pos rfl])
                     go_wp2;go_meet;rw [← HX.out];exact hL
                  case rest=>
                   have hL:=hcut;clear hcut kv;have kg:=(hL.get 3 rfl).cell (j:=0) rfl
                   by_cases hgs:g.kind=Sk.aK
                   · have aoX:=wt hgs
                     have HM:=hide (HR2.out.trans (if_pos hgs));clear hgs
                     go_wp2_with (first | ((with_reducible refine bJ 39 7 ?_);refine ig (hL.rn 2 0 (aC s)) Tryz.underlying39 aJ ?_) | ((with_reducible refine bJ 39 4 ?_);refine ig (hL.rn 0 0 (aC s5)) Tryz.underlying39 aJ ?_) | ((with_reducible refine bJ 85 5 ?_);refine ig (hL.rn 4 0 (dn e)) Tryz.underlying85 fE ?_) | ((with_reducible refine bJ 91 8 ?_);refine ig (hL.rn 1 0 (dV v)) Tryz.underlying91 fP ?_) | (go_at_call 88;refine (zN S s s5 e v _ ht5 hc hc5 hr5 (he.below hL.bw)).mono ?_;rintro e1 w3 ⟨rfl,hb3⟩;have hL:=hL.call hb3) | ((with_reducible refine isS 39 6 98 ?_);refine fU (hL.get 5 rfl) (aC (Sk.eG s s5 e.x v)) aJ (aT _) ?_))
                     have hZ:=hL.tail.tail.tail.tail.tail.put (aC (Sk.eG s s5 e.x v)) rfl;refine bodyPost_ret (aI (p:=6) (hZ.get 0 rfl) Tryz.underlying39 rfl aJ rfl _ rfl) rfl ⟨?_,hZ.bw⟩;rw [HM.out];rfl
                   · have aoX:=wf hgs
                     have HR3:=hide (HR2.out.trans (if_neg hgs));clear hgs;have k1:_=some (Value.int .i64 s5.s0):=(hL.get 0 rfl).cell (j:=1) rfl;have k2:_=some (Value.int .i64 s5.s1):=(hL.get 0 rfl).cell (j:=2) rfl;have kt:=(hL.get 3 rfl).cell (j:=2) rfl;obtain ⟨bm,hbm⟩:∃ q,decide (g.target≤max s5.s0 s5.s1)=q:=⟨_,rfl⟩;have HBM:=hide hbm;clear hbm
                     go_upto_region 27 with (fail)
                     go_cut [108] from 99 to 109 (fun asb wx=>asb= .bool bm∧Bx w wx (KZ w g s e v B7 B8 s5))
                     case first=>
                      go_wp2
                      all_goals
                       go_meet;exact ⟨congrArg _ (by rw [← HBM.out,decide_eq_decide];omega),hL⟩
                     case rest=>
                      obtain ⟨rfl,hL⟩:=hcut;clear k1 k2 kt
                      cases bm
                      · have HM:=hide (HR3.out.trans (if_neg (of_decide_eq_false HBM.out)))
                        go_wp2_with (first | ((with_reducible refine bJ 39 4 ?_);refine ig (hL.rn 0 0 (aC s5)) Tryz.underlying39 aJ ?_) | ((with_reducible refine isS 39 6 112 ?_);refine fU (hL.get 5 rfl) (aC s5) aJ (aT _) ?_))
                        have hZ:=hL.tail.tail.tail.tail.tail.put (aC s5) rfl;refine bodyPost_ret (aI (p:=6) (hZ.get 0 rfl) Tryz.underlying39 rfl aJ rfl _ rfl) rfl ⟨?_,hZ.bw⟩;rw [HM.out];rfl
                      · have HM:=hide (HR3.out.trans (if_pos (of_decide_eq_true HBM.out)))
                        go_upto_region 28 with (fail)
                        go_cut [] from 109 to 112 (fun wx=>Bx w wx (KZ w g s e v B7 B8 (cW s5 (Sk.leader s5))))
                        case first=>
                         go_wp2_with (first | ((with_reducible refine bJ 39 4 ?_);refine ig (hL.rn 0 0 (aC s5)) Tryz.underlying39 aJ ?_) | (go_at_call 89;refine (lU s5 _).mono ?_;rintro e1 w4 ⟨rfl,hb4⟩;have hL:=hL.call hb4;have k12:=(hL.get 0 rfl).cell (j:=12) rfl;have apF:=(hL.get 0 rfl).frozen 12))
                         go_meet;exact hL.set 12 _
                        case rest=>
                         have hL:=hcut;clear hcut
                         go_wp2_with (first | ((with_reducible refine bJ 39 4 ?_);refine ig (hL.rn 0 0 (aC (cW s5 (Sk.leader s5)))) Tryz.underlying39 aJ ?_) | ((with_reducible refine isS 39 6 112 ?_);refine fU (hL.get 5 rfl) (aC (cW s5 (Sk.leader s5))) aJ (aT _) ?_))
                         have hZ:=hL.tail.tail.tail.tail.tail.put (aC (cW s5 (Sk.leader s5))) rfl;refine bodyPost_ret (aI (p:=6) (hZ.get 0 rfl) Tryz.underlying39 rfl aJ rfl _ rfl) rfl ⟨?_,hZ.bw⟩;rw [HM.out];rfl
end Go.Proofs.YtjbbfmofpjflmaaGreatDoor
