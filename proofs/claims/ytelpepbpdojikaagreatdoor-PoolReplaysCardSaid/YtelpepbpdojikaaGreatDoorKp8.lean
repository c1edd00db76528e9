/- Parts of the proofs about chapter 5 (pool), joined by program. -/
import Derived.Test.YtelpepbpdojikaaGreatDoorKp0
import Derived.Test.YtelpepbpdojikaaGreatDoorKp2
import Derived.Test.YtelpepbpdojikaaGreatDoorKq3
set_option maxHeartbeats 4000000
set_option maxRecDepth 100000
set_option linter.unusedVariables false
set_option linter.unusedSimpArgs false
namespace Go.Proofs.YtelpepbpdojikaaGreatDoor
open Go.RowKit
def lg2 (s:M.State) (x:M.aI):Bool:=x.aC≠s.turn∧x.kind≠M.aT
def lg3 (s:M.State) (x:M.aI):Bool:=(s.brk∧x.kind≠M.dh∧x.kind≠M.aT)∨(s.brk=false∧x.kind=M.dh)
def lg4 (s:M.State) (x:M.aI):Bool:=(x.kind=M.eu∧s.push=false)∨(x.kind=M.jo∧s.pushed=false)
def lg5 (r:M.Rules) (s:M.State) (x:M.aI):Bool:=(M.calls r x∧x.aJ ∉ s.ay)∨(M.calls r x=false∧x.aJ≠0)
def lg6 (s:M.State) (x:M.aI):Bool:=x.first≠0∧x.first ∉ s.ay
def lg7 (s:M.State) (x:M.aI):Bool:=(M.objects x).any (fun b=>x.first=0∨b ∉ s.ay)
def agz (s:M.State) (x:M.aI) (b:Int):Bool:=x.first=0∨b ∉ s.ay
theorem amy (r:M.Rules) (s:M.State) (x:M.aI):M.legal r s x=if s.over then 1 else if lg2 s x then 2 else if lg3 s x then 3 else if lg4 s x then 4 else if lg5 r s x then 5 else if lg6 s x then 6 else if lg7 s x then 7 else 0:=by
 unfold M.legal lg2 lg3 lg4 lg5 lg6 lg7
 simp only [decide_eq_true_eq]
theorem aaB (k:ByteArray):(k.toList=[98,114,101,97,107])=(k=M.dh):=agf k _
theorem aa0 (k:ByteArray):(k.toList=[112,108,97,121])=(k=M.jO):=agf k _
theorem toList_push (k:ByteArray):(k.toList=[112,117,115,104])=(k=M.eu):=agf k _
theorem aaR (k:ByteArray):(k.toList=[112,97,115,115])=(k=M.jo):=agf k _
theorem aal (k:ByteArray):(k.toList=[99,111,110,99,101,100,101])=(k=M.aT):=agf k _
theorem abr (k:ByteArray):(k.toList == [112,108,97,121])=decide (k=M.jO):=beq_lit k _
theorem abA (k:ByteArray):(k.toList == [112,117,115,104])=decide (k=M.eu):=beq_lit k _
theorem abj (k:ByteArray):(k.toList == [112,97,115,115])=decide (k=M.jo):=beq_lit k _
theorem aaJ (k:ByteArray):(k.toList == [99,111,110,99,101,100,101])=decide (k=M.aT):=beq_lit k _
theorem ab9 (a b:Int):(a != b)= !decide (a=b):=by by_cases h:a=b <;> simp [h]
theorem ab1 (a b:Int):(a == b)=decide (a=b):=by by_cases h:a=b <;> simp [h]
theorem acP {a b:Bool} (h:a=b):Value.bool a=Value.bool b:=by rw [h]
theorem acy (S:Nat→Prop) (r:M.Rules) (s:M.State) (x:M.aI) (A P:Option Addr) (c d:Nat) (w:World) (hpb:bD w S A c s.ay) (hpp:jl w S P d x.aA):
 Calls Tryz.prog 46 #[jM r,wF s A c,iO x P d] w fun e w'=>e= .returned (.int .i64 (M.legal r s x))∧Below w.heap.size w w':=by
 have hf:=amy r s x
 have hol:=FQ x
 obtain ⟨e1,e2,e3⟩:=hpp.bd
 obtain ⟨e4,e5,e6⟩:=hpb.bd
 obtain ⟨g,tg,fo⟩:=r
 obtain ⟨a0,a1,a2,a3,a4,gr,bl,b0,b1,b2,b3,b4,b5,b6,b7⟩:=s
 obtain ⟨pl,kd,ba,po,fi,cu,aA⟩:=x
 simp only at hpb hpp e1 e3 e4 e6 hol
 have HF:=hide hf
 clear hf
 have K0:Keeps w (((w.alloc (.cells #[.string g,.int .i64 tg,.int .i64 fo] 25)).alloc (.cells #[.int .i64 a0,.bool a1,.bool a2,.bool a3,.bool a4,.int .i64 gr,.slice A bl.length c,.int .i64 b0,.int .i64 b1,.int .i64 b2,.int .i64 b3,.int .i64 b4,.int .i64 b5,.bool b6,.int .i64 b7] 42)).alloc (.cells #[.int .i64 pl,.string kd,.int .i64 ba,.int .i64 po,.int .i64 fi,.bool cu,.slice P aA.length d] 69)) 3 (((w.alloc (.cells #[.string g,.int .i64 tg,.int .i64 fo] 25)).alloc (.cells #[.int .i64 a0,.bool a1,.bool a2,.bool a3,.bool a4,.int .i64 gr,.slice A bl.length c,.int .i64 b0,.int .i64 b1,.int .i64 b2,.int .i64 b3,.int .i64 b4,.int .i64 b5,.bool b6,.int .i64 b7] 42)).alloc (.cells #[.int .i64 pl,.string kd,.int .i64 ba,.int .i64 po,.int .i64 fi,.bool cu,.slice P aA.length d] 69)):=Keeps.of3 w _ _ _
 rcases Bool.eq_false_or_eq_true b6 with hov | hov
 · subst hov
   go_enter Tryz.func46,Tryz.ntmps46
   go_wp2
   go_ret
   exact ⟨dG (by rw [HF.out];simp),K0.bw⟩
 subst hov
 go_enter Tryz.func46,Tryz.ntmps46
 go_upto_region 1 with fail
 go_cut [0,1,2,10] (fun _ _ _ v wx=>v= .bool (false)∧Keeps w (((w.alloc (.cells #[.string g,.int .i64 tg,.int .i64 fo] 25)).alloc (.cells #[.int .i64 a0,.bool a1,.bool a2,.bool a3,.bool a4,.int .i64 gr,.slice A bl.length c,.int .i64 b0,.int .i64 b1,.int .i64 b2,.int .i64 b3,.int .i64 b4,.int .i64 b5,.bool false,.int .i64 b7] 42)).alloc (.cells #[.int .i64 pl,.string kd,.int .i64 ba,.int .i64 po,.int .i64 fi,.bool cu,.slice P aA.length d] 69)) 3 wx)
 case first=>
  all_goals go_wp2
  all_goals go_meet
  all_goals
   refine ⟨?_,by assumption⟩
   rfl
 case rest=>
  obtain ⟨rfl,K1⟩:=hcut
  have hc1:=K1.cell
  go_upto_region 3 with fail
  go_cut [20] (fun v wx=>v= .bool (lg2 ⟨a0,a1,a2,a3,a4,gr,bl,b0,b1,b2,b3,b4,b5,false,b7⟩ ⟨pl,kd,ba,po,fi,cu,aA⟩)∧Keeps w (((w.alloc (.cells #[.string g,.int .i64 tg,.int .i64 fo] 25)).alloc (.cells #[.int .i64 a0,.bool a1,.bool a2,.bool a3,.bool a4,.int .i64 gr,.slice A bl.length c,.int .i64 b0,.int .i64 b1,.int .i64 b2,.int .i64 b3,.int .i64 b4,.int .i64 b5,.bool false,.int .i64 b7] 42)).alloc (.cells #[.int .i64 pl,.string kd,.int .i64 ba,.int .i64 po,.int .i64 fi,.bool cu,.slice P aA.length d] 69)) 3 wx)
  case first=>
   all_goals go_wp2
   all_goals go_meet
   all_goals
    refine ⟨?_,by assumption⟩
    exact acP (by first | (simp [lg2,aaB,aa0,toList_push,aaR,aal,agQ,abr,abA,abj,aaJ,ab9,ab1, *];done) | (simp_all [lg2,aaB,aa0,toList_push,aaR,aal,agQ,abr,abA,abj,aaJ,ab9,ab1];done))
  case rest=>
   obtain ⟨rfl,K2⟩:=hcut
   have hc2:=K2.cell
   rcases Bool.eq_false_or_eq_true (lg2 ⟨a0,a1,a2,a3,a4,gr,bl,b0,b1,b2,b3,b4,b5,false,b7⟩ ⟨pl,kd,ba,po,fi,cu,aA⟩) with h2 | h2
   · rw [h2]
     go_wp2
     go_ret
     exact ⟨dG (by rw [HF.out];simp [h2]),K2.bw⟩
   rw [h2]
   go_upto_region 5 with fail
   go_cut [42] (fun v wx=>v= .bool (lg3 ⟨a0,a1,a2,a3,a4,gr,bl,b0,b1,b2,b3,b4,b5,false,b7⟩ ⟨pl,kd,ba,po,fi,cu,aA⟩)∧Keeps w (((w.alloc (.cells #[.string g,.int .i64 tg,.int .i64 fo] 25)).alloc (.cells #[.int .i64 a0,.bool a1,.bool a2,.bool a3,.bool a4,.int .i64 gr,.slice A bl.length c,.int .i64 b0,.int .i64 b1,.int .i64 b2,.int .i64 b3,.int .i64 b4,.int .i64 b5,.bool false,.int .i64 b7] 42)).alloc (.cells #[.int .i64 pl,.string kd,.int .i64 ba,.int .i64 po,.int .i64 fi,.bool cu,.slice P aA.length d] 69)) 3 wx)
   case first=>
    all_goals go_wp2
    all_goals go_meet
    all_goals
     refine ⟨?_,by assumption⟩
     exact acP (by first | (simp [lg3,aaB,aa0,toList_push,aaR,aal,agQ,abr,abA,abj,aaJ,ab9,ab1, *];done) | (simp_all [lg3,aaB,aa0,toList_push,aaR,aal,agQ,abr,abA,abj,aaJ,ab9,ab1];done))
   case rest=>
    obtain ⟨rfl,K3⟩:=hcut
    have hc3:=K3.cell
    rcases Bool.eq_false_or_eq_true (lg3 ⟨a0,a1,a2,a3,a4,gr,bl,b0,b1,b2,b3,b4,b5,false,b7⟩ ⟨pl,kd,ba,po,fi,cu,aA⟩) with h3 | h3
    · rw [h3]
      go_wp2
      go_ret
      exact ⟨dG (by rw [HF.out];simp [h2,h3]),K3.bw⟩
    rw [h3]
    go_upto_region 7 with fail
    go_cut [60] (fun v wx=>v= .bool (lg4 ⟨a0,a1,a2,a3,a4,gr,bl,b0,b1,b2,b3,b4,b5,false,b7⟩ ⟨pl,kd,ba,po,fi,cu,aA⟩)∧Keeps w (((w.alloc (.cells #[.string g,.int .i64 tg,.int .i64 fo] 25)).alloc (.cells #[.int .i64 a0,.bool a1,.bool a2,.bool a3,.bool a4,.int .i64 gr,.slice A bl.length c,.int .i64 b0,.int .i64 b1,.int .i64 b2,.int .i64 b3,.int .i64 b4,.int .i64 b5,.bool false,.int .i64 b7] 42)).alloc (.cells #[.int .i64 pl,.string kd,.int .i64 ba,.int .i64 po,.int .i64 fi,.bool cu,.slice P aA.length d] 69)) 3 wx)
    case first=>
     all_goals go_wp2
     all_goals go_meet
     all_goals
      refine ⟨?_,by assumption⟩
      exact acP (by first | (simp [lg4,aaB,aa0,toList_push,aaR,aal,agQ,abr,abA,abj,aaJ,ab9,ab1, *];done) | (simp_all [lg4,aaB,aa0,toList_push,aaR,aal,agQ,abr,abA,abj,aaJ,ab9,ab1];done))
    case rest=>
     obtain ⟨rfl,K4⟩:=hcut
     have hc4:=K4.cell
     rcases Bool.eq_false_or_eq_true (lg4 ⟨a0,a1,a2,a3,a4,gr,bl,b0,b1,b2,b3,b4,b5,false,b7⟩ ⟨pl,kd,ba,po,fi,cu,aA⟩) with h4 | h4
     · rw [h4]
       go_wp2
       go_ret
       exact ⟨dG (by rw [HF.out];simp [h2,h3,h4]),K4.bw⟩
     rw [h4]
     go_upto_region 9 with fail
     go_cut [82] (fun v wx=>v= .bool (lg5 ⟨g,tg,fo⟩ ⟨a0,a1,a2,a3,a4,gr,bl,b0,b1,b2,b3,b4,b5,false,b7⟩ ⟨pl,kd,ba,po,fi,cu,aA⟩)∧Keeps w (((w.alloc (.cells #[.string g,.int .i64 tg,.int .i64 fo] 25)).alloc (.cells #[.int .i64 a0,.bool a1,.bool a2,.bool a3,.bool a4,.int .i64 gr,.slice A bl.length c,.int .i64 b0,.int .i64 b1,.int .i64 b2,.int .i64 b3,.int .i64 b4,.int .i64 b5,.bool false,.int .i64 b7] 42)).alloc (.cells #[.int .i64 pl,.string kd,.int .i64 ba,.int .i64 po,.int .i64 fi,.bool cu,.slice P aA.length d] 69)) 3 wx)
     case first=>
      all_goals go_wp2_with (first | (go_at_call 98;refine (aed ⟨g,tg,fo⟩ ⟨pl,kd,ba,po,fi,cu,aA⟩ _ _ _).mono ?_;rintro e w21 ⟨rfl,avi⟩;have K21:=K4.call avi;have hc21:=K21.cell) | (go_at_call 98;refine (aed ⟨g,tg,fo⟩ ⟨pl,kd,ba,po,fi,cu,aA⟩ _ _ _).mono ?_;rintro e w22 ⟨rfl,RY⟩;have K22:=K21.call RY;have hc22:=K22.cell) | (go_at_call 54;refine (Zv _ _ _ _ _ _ (hpb.below K21.bw)).mono ?_;rintro e dO ⟨rfl,rfl⟩))
      all_goals go_meet
      all_goals
       refine ⟨?_,by assumption⟩
       exact acP (by first | (simp [lg5,aaB,aa0,toList_push,aaR,aal,agQ,abr,abA,abj,aaJ,ab9,ab1, *];done) | (simp_all [lg5,aaB,aa0,toList_push,aaR,aal,agQ,abr,abA,abj,aaJ,ab9,ab1];done))
     case rest=>
      obtain ⟨rfl,K5⟩:=hcut
      have hc5:=K5.cell
      rcases Bool.eq_false_or_eq_true (lg5 ⟨g,tg,fo⟩ ⟨a0,a1,a2,a3,a4,gr,bl,b0,b1,b2,b3,b4,b5,false,b7⟩ ⟨pl,kd,ba,po,fi,cu,aA⟩) with h5 | h5
      · rw [h5]
        go_wp2
        go_ret
        exact ⟨dG (by rw [HF.out];simp [h2,h3,h4,h5]),K5.bw⟩
      rw [h5]
      go_upto_region 11 with fail
      go_cut [93] (fun v wx=>v= .bool (lg6 ⟨a0,a1,a2,a3,a4,gr,bl,b0,b1,b2,b3,b4,b5,false,b7⟩ ⟨pl,kd,ba,po,fi,cu,aA⟩)∧Keeps w (((w.alloc (.cells #[.string g,.int .i64 tg,.int .i64 fo] 25)).alloc (.cells #[.int .i64 a0,.bool a1,.bool a2,.bool a3,.bool a4,.int .i64 gr,.slice A bl.length c,.int .i64 b0,.int .i64 b1,.int .i64 b2,.int .i64 b3,.int .i64 b4,.int .i64 b5,.bool false,.int .i64 b7] 42)).alloc (.cells #[.int .i64 pl,.string kd,.int .i64 ba,.int .i64 po,.int .i64 fi,.bool cu,.slice P aA.length d] 69)) 3 wx)
      case first=>
       all_goals go_wp2_with (first | (go_at_call 54;refine (Zv _ _ _ _ _ _ (hpb.below K5.bw)).mono ?_;rintro e dO ⟨rfl,rfl⟩))
       all_goals go_meet
       all_goals
        refine ⟨?_,by assumption⟩
        exact acP (by first | (simp [lg6,aaB,aa0,toList_push,aaR,aal,agQ,abr,abA,abj,aaJ,ab9,ab1, *];done) | (simp_all [lg6,aaB,aa0,toList_push,aaR,aal,agQ,abr,abA,abj,aaJ,ab9,ab1];done))
      case rest=>
       obtain ⟨rfl,K6⟩:=hcut
       have hc6:=K6.cell
       rcases Bool.eq_false_or_eq_true (lg6 ⟨a0,a1,a2,a3,a4,gr,bl,b0,b1,b2,b3,b4,b5,false,b7⟩ ⟨pl,kd,ba,po,fi,cu,aA⟩) with h6 | h6
       · rw [h6]
         go_wp2
         go_ret
         exact ⟨dG (by rw [HF.out];simp [h2,h3,h4,h5,h6]),K6.bw⟩
       rw [h6]
       go_wp2_with ((go_at_call 72;refine (Zd S ⟨pl,kd,ba,po,fi,cu,aA⟩ _ _ _ (hpp.below K6.bw)).mono ?_;rintro e w7 ⟨A1,c1',rfl,hr1,hb7⟩;have K7:=K6.call hb7;have YX:=K7.cell))
       obtain ⟨e7,e8,e9⟩:=hr1.bd
       have HR1:=hide hr1
       clear hr1
       go_loopw [8] (fun i wr=>∃ k m:Nat,k≤(M.objects ⟨pl,kd,ba,po,fi,cu,aA⟩).length∧i= .int .i64 k∧((M.objects ⟨pl,kd,ba,po,fi,cu,aA⟩).take k).any (agz ⟨a0,a1,a2,a3,a4,gr,bl,b0,b1,b2,b3,b4,b5,false,b7⟩ ⟨pl,kd,ba,po,fi,cu,aA⟩)=false∧wr=w7.drewN m) (fun i _=>(M.objects ⟨pl,kd,ba,po,fi,cu,aA⟩).length - (intOf i).toNat)
       case atStart=>exact ⟨0,0,Nat.zero_le _,rfl,by simp,rfl⟩
       case round=>
        obtain ⟨k,m,hk,rfl,hx1,rfl⟩:=hrel
        by_cases hlt:k<(M.objects ⟨pl,kd,ba,po,fi,cu,aA⟩).length
        · obtain ⟨b,o,rfl,_,hbl,hc⟩:=HR1.out.at_ k hlt
          have hck:=hc k hlt
          clear hc
          have i1:(0:Int)≤(k:Int):=by omega
          have i2:(k:Int)<((M.objects ⟨pl,kd,ba,po,fi,cu,aA⟩).length:Int):=by omega
          have WZ:=hide (hpb.below K7.bw)
          by_cases q0:fi=0
          · have q0':(fi == 0)=true:=by simp [q0]
            have H7:=hide (show lg7 ⟨a0,a1,a2,a3,a4,gr,bl,b0,b1,b2,b3,b4,b5,false,b7⟩ ⟨pl,kd,ba,po,fi,cu,aA⟩=true from adF hlt (by simp [agz,q0]))
            clear q0
            go_wp2
            go_quiet (fail)
            go_wp2
            go_ret
            exact ⟨dG (by rw [HF.out];simp [h2,h3,h4,h5,h6,H7.out]),below_drewN (below_drewN K7.bw _) _⟩
          · have q0':(fi == 0)=false:=by simp [q0]
            by_cases q1:(M.objects ⟨pl,kd,ba,po,fi,cu,aA⟩)[k]∈bl
            · have HG:=hide (show agz ⟨a0,a1,a2,a3,a4,gr,bl,b0,b1,b2,b3,b4,b5,false,b7⟩ ⟨pl,kd,ba,po,fi,cu,aA⟩ (M.objects ⟨pl,kd,ba,po,fi,cu,aA⟩)[k]=false by simp [agz,q0,q1])
              clear q0
              go_wp2
              go_quiet ((go_at_call 54;first | exact abS (aeX _ _ _ _ _ _ (WZ.out.drewN _) (by assumption)) | exact abS (adr _ _ _ _ _ _ (WZ.out.drewN _) (by assumption))))
              go_wp2
              go_roundw
              case rel=>exact ⟨k+1,_,by omega,by go_num,aev hlt hx1 HG.out,rfl⟩
              case measure=>simp [intOf];omega
            · have H7:=hide (show lg7 ⟨a0,a1,a2,a3,a4,gr,bl,b0,b1,b2,b3,b4,b5,false,b7⟩ ⟨pl,kd,ba,po,fi,cu,aA⟩=true from adF hlt (by simp [agz,q1]))
              clear q0
              go_wp2
              go_quiet ((go_at_call 54;first | exact abS (aeX _ _ _ _ _ _ (WZ.out.drewN _) (by assumption)) | exact abS (adr _ _ _ _ _ _ (WZ.out.drewN _) (by assumption))))
              go_wp2
              go_ret
              exact ⟨dG (by rw [HF.out];simp [h2,h3,h4,h5,h6,H7.out]),below_drewN (below_drewN K7.bw _) _⟩
        · have hkk:k=(M.objects ⟨pl,kd,ba,po,fi,cu,aA⟩).length:=by omega
          rw [hkk,List.take_length] at hx1
          have H7:=hide (show lg7 ⟨a0,a1,a2,a3,a4,gr,bl,b0,b1,b2,b3,b4,b5,false,b7⟩ ⟨pl,kd,ba,po,fi,cu,aA⟩=false from hx1)
          clear hkk hx1
          go_wp2
          go_ret
          exact ⟨dG (by rw [HF.out];simp [h2,h3,h4,h5,h6,H7.out]),below_drewN K7.bw _⟩
end Go.Proofs.YtelpepbpdojikaaGreatDoor
