/- Parts of the proofs about chapter 5 (pool), joined by program. -/
import Derived.Test.YtelpepbpdojikaaGreatDoorKg15
import Derived.Test.YtelpepbpdojikaaGreatDoorKz5
set_option maxHeartbeats 2000000
set_option maxRecDepth 100000
set_option linter.unusedVariables false
set_option linter.unusedSimpArgs false
namespace Go.Proofs.YtelpepbpdojikaaGreatDoor
open Go.RowKit
theorem apf {N nb b:Nat} {B:World} {cs:List Value} (hb:Box B b cs) (hl:b<N+nb):∀ W:World,(∀ p q,p<N+nb→W.cell? ⟨p,q,none⟩=B.cell? ⟨p,q,none⟩)→W.rangeAt b 0 cs:=by
 intro W h j v hj
 rw [h _ _ hl,Nat.zero_add]
 exact hb.2 j v hj
theorem aoN (a b:Int):aU [a,b]=if a≠0 then a else b:=by
 unfold aU;split
 · rfl
 · by_cases h:b=0 <;> simp [aU,h]
theorem abK {a b:Int} (h:aU [a,b]=0):a=0∧b=0:=by
 rw [aoN] at h
 by_cases ha:a=0
 · rw [if_neg (by simp [ha])] at h;exact ⟨ha,h⟩
 · rw [if_pos ha] at h;exact absurd h ha
theorem aic (S:Nat→Prop) (r:M.Rules) (s:M.State) (x:M.aI) (A P:Option Addr) (c d:Nat) (w:World) (hp:bD w S A c s.ay) (hpp:jl w S P d x.aA):
 Calls Tryz.prog 49 #[jM r,wF s A c,iO x P d] w fun e w'=>e= .returned (.tuple #[.int .i64 (if aU [M.jf r s,M.cZ x]=0 then M.legal r s x else 0),.int .i64 (aU [M.jf r s,M.cZ x])])∧Below w.heap.size w w':=by
 obtain ⟨e1,e2,e3⟩:=hpp.bd
 obtain ⟨e4,e5,e6⟩:=hp.bd
 obtain ⟨g,tg,fo⟩:=r
 obtain ⟨a0,a1,a2,a3,a4,gr,bl,b0,b1,b2,b3,b4,b5,b6,b7⟩:=s
 obtain ⟨pl,kd,ba,po,fi,cu,aA⟩:=x
 simp only at hp hpp e1 e3 e4 e6
 have K0:Keeps w (((w.alloc (.cells #[.string g,.int .i64 tg,.int .i64 fo] 23)).alloc (.cells #[.int .i64 a0,.bool a1,.bool a2,.bool a3,.bool a4,.int .i64 gr,.slice A bl.length c,.int .i64 b0,.int .i64 b1,.int .i64 b2,.int .i64 b3,.int .i64 b4,.int .i64 b5,.bool b6,.int .i64 b7] 33)).alloc (.cells #[.int .i64 pl,.string kd,.int .i64 ba,.int .i64 po,.int .i64 fi,.bool cu,.slice P aA.length d] 66)) 3 (((w.alloc (.cells #[.string g,.int .i64 tg,.int .i64 fo] 23)).alloc (.cells #[.int .i64 a0,.bool a1,.bool a2,.bool a3,.bool a4,.int .i64 gr,.slice A bl.length c,.int .i64 b0,.int .i64 b1,.int .i64 b2,.int .i64 b3,.int .i64 b4,.int .i64 b5,.bool b6,.int .i64 b7] 33)).alloc (.cells #[.int .i64 pl,.string kd,.int .i64 ba,.int .i64 po,.int .i64 fi,.bool cu,.slice P aA.length d] 66)):=Keeps.of3 w _ _ _
 have uG:∀ W:World,(fun w':World=>∀ p q,p<w.heap.size+3→w'.cell? ⟨p,q,none⟩=(((w.alloc (.cells #[.string g,.int .i64 tg,.int .i64 fo] 23)).alloc (.cells #[.int .i64 a0,.bool a1,.bool a2,.bool a3,.bool a4,.int .i64 gr,.slice A bl.length c,.int .i64 b0,.int .i64 b1,.int .i64 b2,.int .i64 b3,.int .i64 b4,.int .i64 b5,.bool b6,.int .i64 b7] 33)).alloc (.cells #[.int .i64 pl,.string kd,.int .i64 ba,.int .i64 po,.int .i64 fi,.bool cu,.slice P aA.length d] 66)).cell? ⟨p,q,none⟩) W→W.rangeAt (w.heap.size+1) 0 [.int .i64 a0,.bool a1,.bool a2,.bool a3,.bool a4,.int .i64 gr,.slice A bl.length c,.int .i64 b0,.int .i64 b1,.int .i64 b2,.int .i64 b3,.int .i64 b4,.int .i64 b5,.bool b6,.int .i64 b7]:=apf ((Box.newAt _ [.int .i64 a0,.bool a1,.bool a2,.bool a3,.bool a4,.int .i64 gr,.slice A bl.length c,.int .i64 b0,.int .i64 b1,.int .i64 b2,.int .i64 b3,.int .i64 b4,.int .i64 b5,.bool b6,.int .i64 b7] _ _ (by simp)).alloc _) (by omega)
 have hun:=Tryz.underlying33
 go_enter Tryz.func49,Tryz.ntmps49
 go_upto_region 1 with (fail)
 go_cut [8] (fun v wx=>v= .int .i64 (aU [M.jf ⟨g,tg,fo⟩ ⟨a0,a1,a2,a3,a4,gr,bl,b0,b1,b2,b3,b4,b5,b6,b7⟩,M.cZ ⟨pl,kd,ba,po,fi,cu,aA⟩])∧Keeps w (((w.alloc (.cells #[.string g,.int .i64 tg,.int .i64 fo] 23)).alloc (.cells #[.int .i64 a0,.bool a1,.bool a2,.bool a3,.bool a4,.int .i64 gr,.slice A bl.length c,.int .i64 b0,.int .i64 b1,.int .i64 b2,.int .i64 b3,.int .i64 b4,.int .i64 b5,.bool b6,.int .i64 b7] 33)).alloc (.cells #[.int .i64 pl,.string kd,.int .i64 ba,.int .i64 po,.int .i64 fi,.bool cu,.slice P aA.length d] 66)) 3 wx)
 case first=>
  refine wp_region_held_drew (S:=(fun w'=>∀ p q,p<w.heap.size+3→w'.cell? ⟨p,q,none⟩=(((w.alloc (.cells #[.string g,.int .i64 tg,.int .i64 fo] 23)).alloc (.cells #[.int .i64 a0,.bool a1,.bool a2,.bool a3,.bool a4,.int .i64 gr,.slice A bl.length c,.int .i64 b0,.int .i64 b1,.int .i64 b2,.int .i64 b3,.int .i64 b4,.int .i64 b5,.bool b6,.int .i64 b7] 33)).alloc (.cells #[.int .i64 pl,.string kd,.int .i64 ba,.int .i64 po,.int .i64 fi,.bool cu,.slice P aA.length d] 66)).cell? ⟨p,q,none⟩)) (by kernel_rfl) ?eP (fun hHeld=>?_)
  case eP=>first | exact K0.cell | exact K1.cell | exact K2.cell | exact (K2.alloc _).cell
  refine tk 0 ?_
  refine wpAnyH_take (i:=1) (oi:=_) (v:=_) (ga rfl) (by kernel_rfl) (by kernel_rfl) (by kernel_rfl) (fun _ _ _ h=>h) (yieldsIf_load_mid (by rfl) _ _ (by rfl) _ _ (by rfl) _ _ uG hun rfl (by kernel_rfl)) (by assumption) ?_
  try simp only [Act.put,la,lz,ls]
  refine tk 3 ?_
  refine tr 2 fun K hK=>?_
  go_simp
  (first | (go_at_call 42;refine (xW S ⟨g,tg,fo⟩ ⟨a0,a1,a2,a3,a4,gr,bl,b0,b1,b2,b3,b4,b5,b6,b7⟩ A c _ (hp.below K0.drew.bw)).mono ?_;rintro e w1 ⟨rfl,hb1⟩;have K1:=K0.drew.call hb1) | (go_at_call 35;refine (vS S ⟨pl,kd,ba,po,fi,cu,aA⟩ P d _ (hpp.below K1.bw)).mono ?_;rintro e w2 ⟨rfl,hb2⟩;have K2:=K1.call hb2) | (go_at_call 85;refine (first_any (fun _=>True) _ _ [M.jf ⟨g,tg,fo⟩ ⟨a0,a1,a2,a3,a4,gr,bl,b0,b1,b2,b3,b4,b5,b6,b7⟩,M.cZ ⟨pl,kd,ba,po,fi,cu,aA⟩] _ (bD.lit _ _ [M.jf ⟨g,tg,fo⟩ ⟨a0,a1,a2,a3,a4,gr,bl,b0,b1,b2,b3,b4,b5,b6,b7⟩,M.cZ ⟨pl,kd,ba,po,fi,cu,aA⟩] (by simp) _ trivial)).mono ?_;rintro e dO ⟨rfl,rfl⟩))
  refine hK.out _ _ ?Td (fun hHeld=>?_)
  case Td=>(first | (first | exact K0.cell | exact K1.cell | exact K2.cell | exact (K2.alloc _).cell) | (dsimp only;first | exact K0.cell | exact K1.cell | exact K2.cell | exact (K2.alloc _).cell))
  clear hK K
  try simp only [Act.put,la,lz,ls]
  refine tr 4 fun K hK=>?_
  go_simp
  (first | (go_at_call 42;refine (xW S ⟨g,tg,fo⟩ ⟨a0,a1,a2,a3,a4,gr,bl,b0,b1,b2,b3,b4,b5,b6,b7⟩ A c _ (hp.below K0.drew.bw)).mono ?_;rintro e w1 ⟨rfl,hb1⟩;have K1:=K0.drew.call hb1) | (go_at_call 35;refine (vS S ⟨pl,kd,ba,po,fi,cu,aA⟩ P d _ (hpp.below K1.bw)).mono ?_;rintro e w2 ⟨rfl,hb2⟩;have K2:=K1.call hb2) | (go_at_call 85;refine (first_any (fun _=>True) _ _ [M.jf ⟨g,tg,fo⟩ ⟨a0,a1,a2,a3,a4,gr,bl,b0,b1,b2,b3,b4,b5,b6,b7⟩,M.cZ ⟨pl,kd,ba,po,fi,cu,aA⟩] _ (bD.lit _ _ [M.jf ⟨g,tg,fo⟩ ⟨a0,a1,a2,a3,a4,gr,bl,b0,b1,b2,b3,b4,b5,b6,b7⟩,M.cZ ⟨pl,kd,ba,po,fi,cu,aA⟩] (by simp) _ trivial)).mono ?_;rintro e dO ⟨rfl,rfl⟩))
  refine hK.out _ _ ?apX (fun hHeld=>?_)
  case apX=>(first | (first | exact K0.cell | exact K1.cell | exact K2.cell | exact (K2.alloc _).cell) | (dsimp only;first | exact K0.cell | exact K1.cell | exact K2.cell | exact (K2.alloc _).cell))
  clear hK K
  try simp only [Act.put,la,lz,ls]
  refine tr 5 fun K hK=>?_
  go_simp
  refine hK.out _ _ ?Tf (fun hHeld=>?_)
  case Tf=>(first | (first | exact K0.cell | exact K1.cell | exact K2.cell | exact (K2.alloc _).cell) | (dsimp only;first | exact K0.cell | exact K1.cell | exact K2.cell | exact (K2.alloc _).cell))
  clear hK K
  try simp only [Act.put,la,lz,ls]
  refine tr 6 fun K hK=>?_
  go_simp
  (first | (go_at_call 42;refine (xW S ⟨g,tg,fo⟩ ⟨a0,a1,a2,a3,a4,gr,bl,b0,b1,b2,b3,b4,b5,b6,b7⟩ A c _ (hp.below K0.drew.bw)).mono ?_;rintro e w1 ⟨rfl,hb1⟩;have K1:=K0.drew.call hb1) | (go_at_call 35;refine (vS S ⟨pl,kd,ba,po,fi,cu,aA⟩ P d _ (hpp.below K1.bw)).mono ?_;rintro e w2 ⟨rfl,hb2⟩;have K2:=K1.call hb2) | (go_at_call 85;refine (first_any (fun _=>True) _ _ [M.jf ⟨g,tg,fo⟩ ⟨a0,a1,a2,a3,a4,gr,bl,b0,b1,b2,b3,b4,b5,b6,b7⟩,M.cZ ⟨pl,kd,ba,po,fi,cu,aA⟩] _ (bD.lit _ _ [M.jf ⟨g,tg,fo⟩ ⟨a0,a1,a2,a3,a4,gr,bl,b0,b1,b2,b3,b4,b5,b6,b7⟩,M.cZ ⟨pl,kd,ba,po,fi,cu,aA⟩] (by simp) _ trivial)).mono ?_;rintro e dO ⟨rfl,rfl⟩))
  refine hK.out _ _ ?Lp (fun hHeld=>?_)
  case Lp=>(first | (first | exact K0.cell | exact K1.cell | exact K2.cell | exact (K2.alloc _).cell) | (dsimp only;first | exact K0.cell | exact K1.cell | exact K2.cell | exact (K2.alloc _).cell))
  clear hK K
  try simp only [Act.put,la,lz,ls]
  refine tk 7 ?_
  refine wpAnyH_done (by kernel_rfl) ?_ _
  go_wp2
  go_meet
  exact ⟨rfl,by first | exact K2.alloc _ | exact (K2.alloc _).drew⟩
 case rest=>
  obtain ⟨rfl,K3⟩:=hcut
  have hc3:=K3.cell
  by_cases hz:aU [M.jf ⟨g,tg,fo⟩ ⟨a0,a1,a2,a3,a4,gr,bl,b0,b1,b2,b3,b4,b5,b6,b7⟩,M.cZ ⟨pl,kd,ba,po,fi,cu,aA⟩]=0
  · have hz':(aU [M.jf ⟨g,tg,fo⟩ ⟨a0,a1,a2,a3,a4,gr,bl,b0,b1,b2,b3,b4,b5,b6,b7⟩,M.cZ ⟨pl,kd,ba,po,fi,cu,aA⟩] != 0)=false:=by simp [hz]
    obtain ⟨q1,q2⟩:=abK hz
    obtain ⟨q3,q4,_⟩:=wL q2
    have hL:=fun W h h'=>Ig S ⟨g,tg,fo⟩ ⟨a0,a1,a2,a3,a4,gr,bl,b0,b1,b2,b3,b4,b5,b6,b7⟩ ⟨pl,kd,ba,po,fi,cu,aA⟩ A P c d W h h' q3 (fun p hp=>(q4 p hp).1.1)
    have HL:=hide hL
    have HZ:=hide hz
    clear hL hz q1 q2 q3 q4
    go_wp2_with (go_at_call 96;refine (HL.out _ (hp.below K3.bw) (hpp.below K3.bw)).mono ?_;rintro e w4 ⟨rfl,hb4⟩)
    go_ret2
    first | exact ⟨rfl,(K3.call hb4).bw⟩ | exact ⟨by simp,(K3.call hb4).bw⟩
  · have hz':(aU [M.jf ⟨g,tg,fo⟩ ⟨a0,a1,a2,a3,a4,gr,bl,b0,b1,b2,b3,b4,b5,b6,b7⟩,M.cZ ⟨pl,kd,ba,po,fi,cu,aA⟩] != 0)=true:=by simp [hz]
    have HZ:=hide hz
    clear hz
    go_wp2
    go_ret2
    first | exact ⟨rfl,K3.bw⟩ | exact ⟨by simp,K3.bw⟩
end Go.Proofs.YtelpepbpdojikaaGreatDoor
