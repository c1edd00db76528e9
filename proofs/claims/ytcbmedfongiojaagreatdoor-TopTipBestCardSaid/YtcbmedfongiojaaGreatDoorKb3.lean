/- Parts of a proof. -/
import Derived.Test.YtcbmedfongiojaaGreatDoorKb0
import Derived.Test.YtcbmedfongiojaaGreatDoorKb2
import Derived.Test.YtcbmedfongiojaaGreatDoorKt36
set_option maxHeartbeats 4000000
set_option maxRecDepth 100000
set_option linter.unusedVariables false
set_option linter.unusedSimpArgs false
namespace Go.Proofs.YtcbmedfongiojaaGreatDoor
open Go.RowKit
theorem acd {g:Sk.Game} {s:Sk.State} (h:Sk.bW g s=0) (hk:g.kind=Sk.aK):fst [Sk.bW g s,jA (decide (g.kind≠Sk.aK)) 13]=0:=by rw [h,hk];rfl
theorem ab2 {g:Sk.Game} {s:Sk.State} (h:Sk.bW g s=0) (hk:g.kind=Sk.aK) (hw:s.ay<0) (ht:s.turn=0∨s.turn=1):Tc g s s.turn=0∧ndV g s s.turn=Sk.needed s s.turn:=by
 have h1:Sk.out s.turn 0 1=false:=by unfold Sk.out;rcases ht with h | h <;> rw [h] <;> decide
 have h2:decide (0≤s.ay)=false:=decide_eq_false (by omega)
 have e:Tc g s s.turn=0:=by unfold Tc;rw [h,hk,h1,h2];rfl
 exact ⟨e,by unfold ndV;rw [if_pos e]⟩
theorem aa9 {s:Sk.State} {p:Int} (a b:Int) (h1:Sk.score s p=a) (h2:Sk.score s (1 - p)=b):(Sk.needed s p == 0)=decide (b≤a+Sk.left s):=by
 have:=Sk.abL s p
 rw [h1,h2] at this;rw [← this];rw [Bool.eq_iff_iff];simp
theorem abB (g:Sk.Game) (s:Sk.State) (w:World) (hG:Glob w):Calls Tryz.prog 3 #[rF g,lJ s] w fun e w'=>e= .returned (.bool true)∧Below w.heap.size w w':=by
 have HG:=hide hG;clear hG
 go_enter Tryz.func3,Tryz.ntmps3
 go_upto_region 0 with (fail)
 go_cut [2,3,4] (fun v2 v3 v4 wx=>v2=ptr (w.heap.size)∧v3=ptr (w.heap.size+1)∧v4= .bool false∧Bx w wx [(w.heap.size,dN g,23),(w.heap.size+1,aQ s,26)])
 case first=>
  go_wp2;go_meet;exact ⟨rfl,rfl,rfl,Bx.of (((aC.nil w).new (by simp) (dN g) 23).new (by simp) (aQ s) 26) _ rfl⟩
 case rest=>
  obtain ⟨rfl,rfl,rfl,hL⟩:=hcut
  go_upto_region 1 with (fail)
  go_cut [53] from 5 to 54 (fun v53 wx=>∃ b,v53= .bool b∧(b=false→g.kind=Sk.aK∧Sk.bW g s=0∧s.ay<0∧s.aW≤2∧s.s0≤500∧s.s1≤500)∧Bx w wx [(w.heap.size,dN g,23),(w.heap.size+1,aQ s,26)])
  case first=>
   obtain ⟨C,hC⟩:∃ q,Sk.bW g s=q:=⟨_,rfl⟩;have hck:=fun W=>Eo g s W;rw [hC] at hck;have uP:=hide hck;have HC:=hide hC;clear hck hC;have kg:=(hL.get 0 rfl).cell (j:=0) rfl;have k4:=(hL.get 1 rfl).cell (j:=4) rfl
   by_cases h1:20<(g.kind.size:Int)
   · have h1t:decide (20<(g.kind.size:Int))=true:=decide_eq_true h1
     go_wp2_with (first | ((with_reducible refine dh 23 2 ?_);refine nI (hL.rn 0 0 ([.string g.kind,.int .i64 g.aW,.int .i64 g.target,.int .i64 g.turns])) Tryz.underlying23 fG ?_) | ((with_reducible refine iV 23 2 ?_);refine nJ (hL.rn 0 0 ([.string g.kind,.int .i64 g.aW,.int .i64 g.target,.int .i64 g.turns])) Tryz.underlying23 fG ?_) | ((with_reducible refine dh 26 3 ?_);refine nI (hL.rn 1 0 ([.int .i64 s.turn,.int .i64 s.s0,.int .i64 s.s1,.int .i64 s.brk,.string s.phase,.int .i64 s.aW,.int .i64 s.colour,.bool s.free,.bool s.aO,.int .i64 s.aJ,.int .i64 s.t0,.int .i64 s.t1,.int .i64 s.ay])) Tryz.underlying26 ak ?_) | ((with_reducible refine iV 26 3 ?_);refine nJ (hL.rn 1 0 ([.int .i64 s.turn,.int .i64 s.s0,.int .i64 s.s1,.int .i64 s.brk,.string s.phase,.int .i64 s.aW,.int .i64 s.colour,.bool s.free,.bool s.aO,.int .i64 s.aJ,.int .i64 s.t0,.int .i64 s.t1,.int .i64 s.ay])) Tryz.underlying26 ak ?_) | (go_at_call 5;refine (uP.out _).mono ?_;rintro e' w2 ⟨rfl,hb2⟩;have hL:=hL.call hb2;have q1:=(hL.get 1 rfl).cell (j:=1) rfl;have q2:=(hL.get 1 rfl).cell (j:=2) rfl;have q5:=(hL.get 1 rfl).cell (j:=5) rfl;have q12:=(hL.get 1 rfl).cell (j:=12) rfl))
     go_meet;exact ⟨true,rfl,fun h=>(nomatch h),hL⟩
   have h1t:decide (20<(g.kind.size:Int))=false:=decide_eq_false h1
   by_cases h2:20<(s.phase.size:Int)
   · have h2t:decide (20<(s.phase.size:Int))=true:=decide_eq_true h2
     go_wp2_with (first | ((with_reducible refine dh 23 2 ?_);refine nI (hL.rn 0 0 ([.string g.kind,.int .i64 g.aW,.int .i64 g.target,.int .i64 g.turns])) Tryz.underlying23 fG ?_) | ((with_reducible refine iV 23 2 ?_);refine nJ (hL.rn 0 0 ([.string g.kind,.int .i64 g.aW,.int .i64 g.target,.int .i64 g.turns])) Tryz.underlying23 fG ?_) | ((with_reducible refine dh 26 3 ?_);refine nI (hL.rn 1 0 ([.int .i64 s.turn,.int .i64 s.s0,.int .i64 s.s1,.int .i64 s.brk,.string s.phase,.int .i64 s.aW,.int .i64 s.colour,.bool s.free,.bool s.aO,.int .i64 s.aJ,.int .i64 s.t0,.int .i64 s.t1,.int .i64 s.ay])) Tryz.underlying26 ak ?_) | ((with_reducible refine iV 26 3 ?_);refine nJ (hL.rn 1 0 ([.int .i64 s.turn,.int .i64 s.s0,.int .i64 s.s1,.int .i64 s.brk,.string s.phase,.int .i64 s.aW,.int .i64 s.colour,.bool s.free,.bool s.aO,.int .i64 s.aJ,.int .i64 s.t0,.int .i64 s.t1,.int .i64 s.ay])) Tryz.underlying26 ak ?_) | (go_at_call 5;refine (uP.out _).mono ?_;rintro e' w2 ⟨rfl,hb2⟩;have hL:=hL.call hb2;have q1:=(hL.get 1 rfl).cell (j:=1) rfl;have q2:=(hL.get 1 rfl).cell (j:=2) rfl;have q5:=(hL.get 1 rfl).cell (j:=5) rfl;have q12:=(hL.get 1 rfl).cell (j:=12) rfl))
     go_meet;exact ⟨true,rfl,fun h=>(nomatch h),hL⟩
   have h2t:decide (20<(s.phase.size:Int))=false:=decide_eq_false h2
   by_cases h3:g.kind=Sk.aK
   rotate_left
   · have h3t:=wf h3
     clear h3
     go_wp2_with (first | ((with_reducible refine dh 23 2 ?_);refine nI (hL.rn 0 0 ([.string g.kind,.int .i64 g.aW,.int .i64 g.target,.int .i64 g.turns])) Tryz.underlying23 fG ?_) | ((with_reducible refine iV 23 2 ?_);refine nJ (hL.rn 0 0 ([.string g.kind,.int .i64 g.aW,.int .i64 g.target,.int .i64 g.turns])) Tryz.underlying23 fG ?_) | ((with_reducible refine dh 26 3 ?_);refine nI (hL.rn 1 0 ([.int .i64 s.turn,.int .i64 s.s0,.int .i64 s.s1,.int .i64 s.brk,.string s.phase,.int .i64 s.aW,.int .i64 s.colour,.bool s.free,.bool s.aO,.int .i64 s.aJ,.int .i64 s.t0,.int .i64 s.t1,.int .i64 s.ay])) Tryz.underlying26 ak ?_) | ((with_reducible refine iV 26 3 ?_);refine nJ (hL.rn 1 0 ([.int .i64 s.turn,.int .i64 s.s0,.int .i64 s.s1,.int .i64 s.brk,.string s.phase,.int .i64 s.aW,.int .i64 s.colour,.bool s.free,.bool s.aO,.int .i64 s.aJ,.int .i64 s.t0,.int .i64 s.t1,.int .i64 s.ay])) Tryz.underlying26 ak ?_) | (go_at_call 5;refine (uP.out _).mono ?_;rintro e' w2 ⟨rfl,hb2⟩;have hL:=hL.call hb2;have q1:=(hL.get 1 rfl).cell (j:=1) rfl;have q2:=(hL.get 1 rfl).cell (j:=2) rfl;have q5:=(hL.get 1 rfl).cell (j:=5) rfl;have q12:=(hL.get 1 rfl).cell (j:=12) rfl))
     go_meet;exact ⟨true,rfl,fun h=>(nomatch h),hL⟩
   have h3t:=wt h3;have KK:=hide h3;clear h3
   by_cases h4:C=0
   rotate_left
   · have h4t:(C != 0)=true:=by simp [h4]
     clear h4
     go_wp2_with (first | ((with_reducible refine dh 23 2 ?_);refine nI (hL.rn 0 0 ([.string g.kind,.int .i64 g.aW,.int .i64 g.target,.int .i64 g.turns])) Tryz.underlying23 fG ?_) | ((with_reducible refine iV 23 2 ?_);refine nJ (hL.rn 0 0 ([.string g.kind,.int .i64 g.aW,.int .i64 g.target,.int .i64 g.turns])) Tryz.underlying23 fG ?_) | ((with_reducible refine dh 26 3 ?_);refine nI (hL.rn 1 0 ([.int .i64 s.turn,.int .i64 s.s0,.int .i64 s.s1,.int .i64 s.brk,.string s.phase,.int .i64 s.aW,.int .i64 s.colour,.bool s.free,.bool s.aO,.int .i64 s.aJ,.int .i64 s.t0,.int .i64 s.t1,.int .i64 s.ay])) Tryz.underlying26 ak ?_) | ((with_reducible refine iV 26 3 ?_);refine nJ (hL.rn 1 0 ([.int .i64 s.turn,.int .i64 s.s0,.int .i64 s.s1,.int .i64 s.brk,.string s.phase,.int .i64 s.aW,.int .i64 s.colour,.bool s.free,.bool s.aO,.int .i64 s.aJ,.int .i64 s.t0,.int .i64 s.t1,.int .i64 s.ay])) Tryz.underlying26 ak ?_) | (go_at_call 5;refine (uP.out _).mono ?_;rintro e' w2 ⟨rfl,hb2⟩;have hL:=hL.call hb2;have q1:=(hL.get 1 rfl).cell (j:=1) rfl;have q2:=(hL.get 1 rfl).cell (j:=2) rfl;have q5:=(hL.get 1 rfl).cell (j:=5) rfl;have q12:=(hL.get 1 rfl).cell (j:=12) rfl))
     go_meet;exact ⟨true,rfl,fun h=>(nomatch h),hL⟩
   have h4t:(C != 0)=false:=by simp [h4]
   have CC:=hide h4;clear h4
   by_cases h5:0≤s.ay
   · have h5t:decide (0≤s.ay)=true:=decide_eq_true h5
     go_wp2_with (first | ((with_reducible refine dh 23 2 ?_);refine nI (hL.rn 0 0 ([.string g.kind,.int .i64 g.aW,.int .i64 g.target,.int .i64 g.turns])) Tryz.underlying23 fG ?_) | ((with_reducible refine iV 23 2 ?_);refine nJ (hL.rn 0 0 ([.string g.kind,.int .i64 g.aW,.int .i64 g.target,.int .i64 g.turns])) Tryz.underlying23 fG ?_) | ((with_reducible refine dh 26 3 ?_);refine nI (hL.rn 1 0 ([.int .i64 s.turn,.int .i64 s.s0,.int .i64 s.s1,.int .i64 s.brk,.string s.phase,.int .i64 s.aW,.int .i64 s.colour,.bool s.free,.bool s.aO,.int .i64 s.aJ,.int .i64 s.t0,.int .i64 s.t1,.int .i64 s.ay])) Tryz.underlying26 ak ?_) | ((with_reducible refine iV 26 3 ?_);refine nJ (hL.rn 1 0 ([.int .i64 s.turn,.int .i64 s.s0,.int .i64 s.s1,.int .i64 s.brk,.string s.phase,.int .i64 s.aW,.int .i64 s.colour,.bool s.free,.bool s.aO,.int .i64 s.aJ,.int .i64 s.t0,.int .i64 s.t1,.int .i64 s.ay])) Tryz.underlying26 ak ?_) | (go_at_call 5;refine (uP.out _).mono ?_;rintro e' w2 ⟨rfl,hb2⟩;have hL:=hL.call hb2;have q1:=(hL.get 1 rfl).cell (j:=1) rfl;have q2:=(hL.get 1 rfl).cell (j:=2) rfl;have q5:=(hL.get 1 rfl).cell (j:=5) rfl;have q12:=(hL.get 1 rfl).cell (j:=12) rfl))
     go_meet;exact ⟨true,rfl,fun h=>(nomatch h),hL⟩
   have h5t:decide (0≤s.ay)=false:=decide_eq_false h5
   by_cases h6:2<s.aW
   · have h6t:decide (2<s.aW)=true:=decide_eq_true h6
     go_wp2_with (first | ((with_reducible refine dh 23 2 ?_);refine nI (hL.rn 0 0 ([.string g.kind,.int .i64 g.aW,.int .i64 g.target,.int .i64 g.turns])) Tryz.underlying23 fG ?_) | ((with_reducible refine iV 23 2 ?_);refine nJ (hL.rn 0 0 ([.string g.kind,.int .i64 g.aW,.int .i64 g.target,.int .i64 g.turns])) Tryz.underlying23 fG ?_) | ((with_reducible refine dh 26 3 ?_);refine nI (hL.rn 1 0 ([.int .i64 s.turn,.int .i64 s.s0,.int .i64 s.s1,.int .i64 s.brk,.string s.phase,.int .i64 s.aW,.int .i64 s.colour,.bool s.free,.bool s.aO,.int .i64 s.aJ,.int .i64 s.t0,.int .i64 s.t1,.int .i64 s.ay])) Tryz.underlying26 ak ?_) | ((with_reducible refine iV 26 3 ?_);refine nJ (hL.rn 1 0 ([.int .i64 s.turn,.int .i64 s.s0,.int .i64 s.s1,.int .i64 s.brk,.string s.phase,.int .i64 s.aW,.int .i64 s.colour,.bool s.free,.bool s.aO,.int .i64 s.aJ,.int .i64 s.t0,.int .i64 s.t1,.int .i64 s.ay])) Tryz.underlying26 ak ?_) | (go_at_call 5;refine (uP.out _).mono ?_;rintro e' w2 ⟨rfl,hb2⟩;have hL:=hL.call hb2;have q1:=(hL.get 1 rfl).cell (j:=1) rfl;have q2:=(hL.get 1 rfl).cell (j:=2) rfl;have q5:=(hL.get 1 rfl).cell (j:=5) rfl;have q12:=(hL.get 1 rfl).cell (j:=12) rfl))
     go_meet;exact ⟨true,rfl,fun h=>(nomatch h),hL⟩
   have h6t:decide (2<s.aW)=false:=decide_eq_false h6
   by_cases h7:500<s.s0
   · have h7t:decide (500<s.s0)=true:=decide_eq_true h7
     go_wp2_with (first | ((with_reducible refine dh 23 2 ?_);refine nI (hL.rn 0 0 ([.string g.kind,.int .i64 g.aW,.int .i64 g.target,.int .i64 g.turns])) Tryz.underlying23 fG ?_) | ((with_reducible refine iV 23 2 ?_);refine nJ (hL.rn 0 0 ([.string g.kind,.int .i64 g.aW,.int .i64 g.target,.int .i64 g.turns])) Tryz.underlying23 fG ?_) | ((with_reducible refine dh 26 3 ?_);refine nI (hL.rn 1 0 ([.int .i64 s.turn,.int .i64 s.s0,.int .i64 s.s1,.int .i64 s.brk,.string s.phase,.int .i64 s.aW,.int .i64 s.colour,.bool s.free,.bool s.aO,.int .i64 s.aJ,.int .i64 s.t0,.int .i64 s.t1,.int .i64 s.ay])) Tryz.underlying26 ak ?_) | ((with_reducible refine iV 26 3 ?_);refine nJ (hL.rn 1 0 ([.int .i64 s.turn,.int .i64 s.s0,.int .i64 s.s1,.int .i64 s.brk,.string s.phase,.int .i64 s.aW,.int .i64 s.colour,.bool s.free,.bool s.aO,.int .i64 s.aJ,.int .i64 s.t0,.int .i64 s.t1,.int .i64 s.ay])) Tryz.underlying26 ak ?_) | (go_at_call 5;refine (uP.out _).mono ?_;rintro e' w2 ⟨rfl,hb2⟩;have hL:=hL.call hb2;have q1:=(hL.get 1 rfl).cell (j:=1) rfl;have q2:=(hL.get 1 rfl).cell (j:=2) rfl;have q5:=(hL.get 1 rfl).cell (j:=5) rfl;have q12:=(hL.get 1 rfl).cell (j:=12) rfl))
     go_meet;exact ⟨true,rfl,fun h=>(nomatch h),hL⟩
   have h7t:decide (500<s.s0)=false:=decide_eq_false h7
   by_cases h8:500<s.s1
   · have h8t:decide (500<s.s1)=true:=decide_eq_true h8
     go_wp2_with (first | ((with_reducible refine dh 23 2 ?_);refine nI (hL.rn 0 0 ([.string g.kind,.int .i64 g.aW,.int .i64 g.target,.int .i64 g.turns])) Tryz.underlying23 fG ?_) | ((with_reducible refine iV 23 2 ?_);refine nJ (hL.rn 0 0 ([.string g.kind,.int .i64 g.aW,.int .i64 g.target,.int .i64 g.turns])) Tryz.underlying23 fG ?_) | ((with_reducible refine dh 26 3 ?_);refine nI (hL.rn 1 0 ([.int .i64 s.turn,.int .i64 s.s0,.int .i64 s.s1,.int .i64 s.brk,.string s.phase,.int .i64 s.aW,.int .i64 s.colour,.bool s.free,.bool s.aO,.int .i64 s.aJ,.int .i64 s.t0,.int .i64 s.t1,.int .i64 s.ay])) Tryz.underlying26 ak ?_) | ((with_reducible refine iV 26 3 ?_);refine nJ (hL.rn 1 0 ([.int .i64 s.turn,.int .i64 s.s0,.int .i64 s.s1,.int .i64 s.brk,.string s.phase,.int .i64 s.aW,.int .i64 s.colour,.bool s.free,.bool s.aO,.int .i64 s.aJ,.int .i64 s.t0,.int .i64 s.t1,.int .i64 s.ay])) Tryz.underlying26 ak ?_) | (go_at_call 5;refine (uP.out _).mono ?_;rintro e' w2 ⟨rfl,hb2⟩;have hL:=hL.call hb2;have q1:=(hL.get 1 rfl).cell (j:=1) rfl;have q2:=(hL.get 1 rfl).cell (j:=2) rfl;have q5:=(hL.get 1 rfl).cell (j:=5) rfl;have q12:=(hL.get 1 rfl).cell (j:=12) rfl))
     go_meet;exact ⟨true,rfl,fun h=>(nomatch h),hL⟩
   have h8t:decide (500<s.s1)=false:=decide_eq_false h8
   go_wp2_with (first | ((with_reducible refine dh 23 2 ?_);refine nI (hL.rn 0 0 ([.string g.kind,.int .i64 g.aW,.int .i64 g.target,.int .i64 g.turns])) Tryz.underlying23 fG ?_) | ((with_reducible refine iV 23 2 ?_);refine nJ (hL.rn 0 0 ([.string g.kind,.int .i64 g.aW,.int .i64 g.target,.int .i64 g.turns])) Tryz.underlying23 fG ?_) | ((with_reducible refine dh 26 3 ?_);refine nI (hL.rn 1 0 ([.int .i64 s.turn,.int .i64 s.s0,.int .i64 s.s1,.int .i64 s.brk,.string s.phase,.int .i64 s.aW,.int .i64 s.colour,.bool s.free,.bool s.aO,.int .i64 s.aJ,.int .i64 s.t0,.int .i64 s.t1,.int .i64 s.ay])) Tryz.underlying26 ak ?_) | ((with_reducible refine iV 26 3 ?_);refine nJ (hL.rn 1 0 ([.int .i64 s.turn,.int .i64 s.s0,.int .i64 s.s1,.int .i64 s.brk,.string s.phase,.int .i64 s.aW,.int .i64 s.colour,.bool s.free,.bool s.aO,.int .i64 s.aJ,.int .i64 s.t0,.int .i64 s.t1,.int .i64 s.ay])) Tryz.underlying26 ak ?_) | (go_at_call 5;refine (uP.out _).mono ?_;rintro e' w2 ⟨rfl,hb2⟩;have hL:=hL.call hb2;have q1:=(hL.get 1 rfl).cell (j:=1) rfl;have q2:=(hL.get 1 rfl).cell (j:=2) rfl;have q5:=(hL.get 1 rfl).cell (j:=5) rfl;have q12:=(hL.get 1 rfl).cell (j:=12) rfl))
   go_meet;exact ⟨false,rfl,fun _=>by have:=HC.out;exact ⟨KK.out,this.trans CC.out,by omega,by omega,by omega,by omega⟩,hL⟩
  case rest=>
   obtain ⟨b,rfl,hb,hL⟩:=hcut
   cases b with
   | true=>
     clear hb
     go_wp2_with (first | (go_at_call 6;refine (ED _ (HG.out.below hL.bw)).mono ?_;rintro e' w1 ⟨rfl,hb1⟩;have hL:=hL.call hb1))
     go_ret;exact ⟨rfl,hL.bw⟩
   | false=>
     obtain ⟨hk,hck,hw,hr,h0,h1⟩:=hb rfl;have hok:=Sk.kL.1 hck;have htn:=hok.inr.turn;have hlr:=Sk.oO hok hk;have HSM:=hide (show 0≤s.s0∧0≤s.s1∧s.s0≤500∧s.s1≤500∧0≤Sk.left s∧Sk.left s≤200 from ⟨hok.inr.s0.1,hok.inr.s1.1,h0,h1,hlr.1,hlr.2⟩);have c1:=fun W=>Jz g s W;rw [acd hck hk,if_pos rfl] at c1;have C1:=hide c1;have C2:=hide (fun W=>yJ 21 0 g s W (by omega) (Sk.lK.start hok hk hr h0 h1));have c3:=fun W=>Ey g s s.turn W;rw [(ab2 hck hk hw htn).1,(ab2 hck hk hw htn).2] at c3;clear hb hk hck hw hr h0 h1 hok hlr c1
     have hll:(Sk.left s != Sk.left s)=false:=by simp
     have C3:=hide c3;have aco:=hide htn;clear c3 htn
     go_upto_region 8 with (first | ((with_reducible refine dh 23 2 ?_);refine nI (hL.rn 0 0 ([.string g.kind,.int .i64 g.aW,.int .i64 g.target,.int .i64 g.turns])) Tryz.underlying23 fG ?_) | ((with_reducible refine iV 23 2 ?_);refine nJ (hL.rn 0 0 ([.string g.kind,.int .i64 g.aW,.int .i64 g.target,.int .i64 g.turns])) Tryz.underlying23 fG ?_) | ((with_reducible refine dh 26 3 ?_);refine nI (hL.rn 1 0 ([.int .i64 s.turn,.int .i64 s.s0,.int .i64 s.s1,.int .i64 s.brk,.string s.phase,.int .i64 s.aW,.int .i64 s.colour,.bool s.free,.bool s.aO,.int .i64 s.aJ,.int .i64 s.t0,.int .i64 s.t1,.int .i64 s.ay])) Tryz.underlying26 ak ?_) | ((with_reducible refine iV 26 3 ?_);refine nJ (hL.rn 1 0 ([.int .i64 s.turn,.int .i64 s.s0,.int .i64 s.s1,.int .i64 s.brk,.string s.phase,.int .i64 s.aW,.int .i64 s.colour,.bool s.free,.bool s.aO,.int .i64 s.aJ,.int .i64 s.t0,.int .i64 s.t1,.int .i64 s.ay])) Tryz.underlying26 ak ?_) | (go_at_call 7;refine (C1.out _).mono ?_;rintro e' w3 ⟨rfl,hb3⟩;have hL:=hL.call hb3) | (go_at_call 8;refine (C2.out _).mono ?_;rintro e' w4 ⟨rfl,hb4⟩;have hL:=hL.call hb4;have q0:=(hL.get 1 rfl).cell (j:=0) rfl) | (go_at_call 9;refine (C3.out _).mono ?_;rintro e' w5 ⟨rfl,hb5⟩;have hL:=hL.call hb5))
     rcases aco.out with ht | ht
     · have HTN:=hide ht
       have hnd1:=aa9 (s:=s) (p:=0) (s.s0) (s.s1) rfl rfl;obtain ⟨b,hb⟩:∃ b,(Sk.needed s s.turn == 0)=b:=⟨_,rfl⟩
       have hb2:decide (s.s1≤s.s0+Sk.left s)=b:=by rw [← hb,HTN.out];exact hnd1.symm
       have hwr:IntKind.i64.wrap (s.s0+Sk.left s)=s.s0+Sk.left s:=by have:=HSM.out;rw [IntKind.wrap_i64];omega
       have hbb:(b == b)=true:=by simp
       have acz:IntKind.i64.wrap 1=1:=by rw [IntKind.wrap_i64];omega
       clear hnd1 ht
       go_upto_region 8 with (fail)
       have hL:=hL.drew;refine wp_region_held_drew (S:=(fun w':World=>Bx w w' [(w.heap.size,dN g,23),(w.heap.size+1,aQ s,26)]∧w'.cell? ⟨w.heap.size+1,0,none⟩=some (.int .i64 0)∧w'.cell? ⟨w.heap.size+1,1,none⟩=some (.int .i64 s.s0)∧w'.cell? ⟨w.heap.size+1,2,none⟩=some (.int .i64 s.s1))) (by kernel_rfl) ?bU (fun hHeld=>?_)
       case bU=>exact ⟨hL,(hL.get 1 rfl).cell (j:=0) (by show some (Value.int .i64 s.turn)=_;rw [HTN.out]),(hL.get 1 rfl).cell (j:=1) rfl,(hL.get 1 rfl).cell (j:=2) rfl⟩
       refine aA 0 ?_;refine aA 1 ?_;refine aA 2 ?_;refine aA 3 ?_;refine aA 4 ?_;refine aA 5 ?_;refine aA 6 ?_;refine aA 7 ?_;refine aA 8 ?_;refine aA 9 ?_;refine aA 10 ?_;refine aA 11 ?_;refine aA 12 ?_;refine aA 13 ?_;refine aA 14 ?_;refine aA 15 ?_;refine aA 16 ?_;refine aA 17 ?_;refine aB 18 fun K hK=>?_;go_simp
       (go_at_call 6;refine (ED _ (HG.out.below hL.bw)).mono ?_;rintro e w8a ⟨rfl,IE⟩)
       have hL:=hL.call IE;refine au hK (⟨hL,(hL.get 1 rfl).cell (j:=0) (by show some (Value.int .i64 s.turn)=_;rw [HTN.out]),(hL.get 1 rfl).cell (j:=1) rfl,(hL.get 1 rfl).cell (j:=2) rfl⟩) fun hHeld=>?_;clear hK K;refine aA 19 ?_;refine aA 20 ?_;refine wpAnyH_done (by kernel_rfl) ?_ _;go_wp2;go_ret;exact ⟨rfl,hL.bw⟩
     · have HTN:=hide ht
       have hnd1:=aa9 (s:=s) (p:=1) (s.s1) (s.s0) rfl rfl;obtain ⟨b,hb⟩:∃ b,(Sk.needed s s.turn == 0)=b:=⟨_,rfl⟩
       have hb2:decide (s.s0≤s.s1+Sk.left s)=b:=by rw [← hb,HTN.out];exact hnd1.symm
       have hwr:IntKind.i64.wrap (s.s1+Sk.left s)=s.s1+Sk.left s:=by have:=HSM.out;rw [IntKind.wrap_i64];omega
       have hbb:(b == b)=true:=by simp
       have acz:IntKind.i64.wrap 0=0:=by rw [IntKind.wrap_i64];omega
       clear hnd1 ht
       go_upto_region 8 with (fail)
       have hL:=hL.drew;refine wp_region_held_drew (S:=(fun w':World=>Bx w w' [(w.heap.size,dN g,23),(w.heap.size+1,aQ s,26)]∧w'.cell? ⟨w.heap.size+1,0,none⟩=some (.int .i64 1)∧w'.cell? ⟨w.heap.size+1,1,none⟩=some (.int .i64 s.s0)∧w'.cell? ⟨w.heap.size+1,2,none⟩=some (.int .i64 s.s1))) (by kernel_rfl) ?cu (fun hHeld=>?_)
       case cu=>exact ⟨hL,(hL.get 1 rfl).cell (j:=0) (by show some (Value.int .i64 s.turn)=_;rw [HTN.out]),(hL.get 1 rfl).cell (j:=1) rfl,(hL.get 1 rfl).cell (j:=2) rfl⟩
       refine aA 0 ?_;refine aA 1 ?_;refine aA 2 ?_;refine aA 3 ?_;refine aA 4 ?_;refine aA 5 ?_;refine aA 6 ?_;refine aA 7 ?_;refine aA 8 ?_;refine aA 9 ?_;refine aA 10 ?_;refine aA 11 ?_;refine aA 12 ?_;refine aA 13 ?_;refine aA 14 ?_;refine aA 15 ?_;refine aA 16 ?_;refine aA 17 ?_;refine aB 18 fun K hK=>?_;go_simp
       (go_at_call 6;refine (ED _ (HG.out.below hL.bw)).mono ?_;rintro e w8a ⟨rfl,IE⟩)
       have hL:=hL.call IE;refine au hK (⟨hL,(hL.get 1 rfl).cell (j:=0) (by show some (Value.int .i64 s.turn)=_;rw [HTN.out]),(hL.get 1 rfl).cell (j:=1) rfl,(hL.get 1 rfl).cell (j:=2) rfl⟩) fun hHeld=>?_;clear hK K;refine aA 19 ?_;refine aA 20 ?_;refine wpAnyH_done (by kernel_rfl) ?_ _;go_wp2;go_ret;exact ⟨rfl,hL.bw⟩
end Go.Proofs.YtcbmedfongiojaaGreatDoor
