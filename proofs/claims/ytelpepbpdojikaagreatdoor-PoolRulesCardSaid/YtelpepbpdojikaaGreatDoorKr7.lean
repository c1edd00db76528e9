/- Parts of the proofs about chapter 5 (pool), joined by program. -/
import Derived.Test.YtelpepbpdojikaaGreatDoorKg29
import Derived.Test.YtelpepbpdojikaaGreatDoorKr5
set_option maxHeartbeats 4000000
set_option maxRecDepth 100000
set_option linter.unusedVariables false
set_option linter.unusedSimpArgs false
namespace Go.Proofs.YtelpepbpdojikaaGreatDoor
open Go.RowKit
def abS (r:M.Rules) (s:M.State) (x:M.aI):Int:=if aU [M.jf r s,M.cZ x]≠0 then aU [M.jf r s,M.cZ x] else if M.legal r s x≠0 then 18 else 0
def ab1 (r:M.Rules) (s:M.State) (x:M.aI):Int:=if abS r s x=0 then M.iW r s x else 0
theorem agr (S:Nat→Prop) (r:M.Rules) (s:M.State) (x:M.aI) (A P:Option Addr) (c d:Nat) (w:World) (hp:bD w S A c s.ay) (hpp:jl w S P d x.aA):
 Calls Tryz.prog 50 #[jM r,wF s A c,iO x P d] w fun e w'=>e= .returned (.tuple #[.int .i64 (ab1 r s x),.int .i64 (abS r s x)])∧Below w.heap.size w w':=by
 go_enter Tryz.func50,Tryz.ntmps50
 go_upto_region 0 with (fail)
 go_cut [3,4,5,6,7] (fun v3 v4 v5 v6 v7 wx=>v3=ptr w.heap.size∧v4=ptr (w.heap.size+1)∧v5=ptr (w.heap.size+2)∧v6= .int .i64 0∧v7= .int .i64 0∧bU w wx [([.string r.game,.int .i64 r.target,.int .i64 r.aY],23),(aW s A c,33),(au ⟨x,P,d⟩,66)])
 case first=>
  go_wp2
  go_meet
  exact ⟨rfl,rfl,rfl,rfl,rfl,((((bU.nil w).new (by simp) ([.string r.game,.int .i64 r.target,.int .i64 r.aY]) _).new (by simp) (aW s A c) _).new (by simp) (au ⟨x,P,d⟩) _)⟩
 case rest=>
  obtain ⟨rfl,rfl,rfl,rfl,rfl,hB⟩:=hcut
  go_upto_region 1 with (fail)
  go_cut [8] (fun v wx=>v= .int .i64 (aU [M.jf r s,M.cZ x])∧bU w wx [([.string r.game,.int .i64 r.target,.int .i64 r.aY],23),(aW s A c,33),(au ⟨x,P,d⟩,66)])
  case first=>
   have hF:=hB.bf rfl
   have k0:=hF.cell (j:=0) rfl
   have GL:=hF.frozen 0
   have k1:=hF.cell (j:=1) rfl
   have JE:=hF.frozen 1
   have k2:=hF.cell (j:=2) rfl
   have Pn:=hF.frozen 2
   have hrS:∀ W:World,(fun w':World=>∀ p q,p<w.heap.size+3→w'.cell? ⟨p,q,none⟩=wc.cell? ⟨p,q,none⟩) W→W.rangeAt (w.heap.size+1) 0 (aW s A c):=fun W h j v hj=>by rw [h _ _ (by omega)];exact (hB.get 1 rfl).range j v hj
   have GK:∀ W:World,(fun w':World=>∀ p q,p<w.heap.size+3→w'.cell? ⟨p,q,none⟩=wc.cell? ⟨p,q,none⟩) W→W.rangeAt (w.heap.size+2) 0 (au ⟨x,P,d⟩):=fun W h j v hj=>by rw [h _ _ (by omega)];exact (hB.get 2 rfl).range j v hj
   refine wp_region_held_drew (S:=(fun w':World=>∀ p q,p<w.heap.size+3→w'.cell? ⟨p,q,none⟩=wc.cell? ⟨p,q,none⟩)) (by kernel_rfl) ?zV (fun hHeld=>?_)
   case zV=>first | exact fun p q h=>rfl | exact fun p q h=>hB.drew.cells hb1 p q h | exact fun p q h=>(hB1.cells hb2 p q h).trans (hB.drew.cells hb1 p q h) | exact fun p q h=>((hB2.cells ((Below.refl _ _).alloc (Nat.le_refl _) _) p q h).trans (hB1.cells hb2 p q h)).trans (hB.drew.cells hb1 p q h)
   refine tk 0 ?_
   refine wpAnyH_take (i:=1) (oi:=_) (v:=_) (ga rfl) (by kernel_rfl) (by kernel_rfl) (by kernel_rfl) (fun _ _ _ h=>h) (yieldsIf_load_mid (by rfl) _ _ (by rfl) _ _ (by rfl) _ _ hrS Tryz.underlying33 rfl (by kernel_rfl)) (by assumption) ?_
   try simp only [Act.put,la,lz,ls]
   refine wpAnyH_take (i:=3) (oi:=_) (v:=_) (ga rfl) (by kernel_rfl) (by kernel_rfl) (by kernel_rfl) (fun _ _ _ h=>h) (yieldsIf_load_mid (by rfl) _ _ (by rfl) _ _ (by rfl) _ _ GK Tryz.underlying66 rfl (by kernel_rfl)) (by assumption) ?_
   try simp only [Act.put,la,lz,ls]
   refine tr 2 fun K hK=>?_
   go_simp
   (first | (go_at_call 42;refine (xW S r s A c _ (hp.below hB.drew.bw)).mono ?_;rintro e w1 ⟨rfl,hb1⟩;have hB1:=hB.drew.call (by simp) hb1) | (go_at_call 35;refine (vS S x P d _ (hpp.below hB1.bw)).mono ?_;rintro e w2 ⟨rfl,hb2⟩;have hB2:=hB1.call (by simp) hb2) | (go_at_call 85;refine (first_any (fun _=>True) _ _ [M.jf r s,M.cZ x] _ (bD.lit _ _ [M.jf r s,M.cZ x] (by simp) _ trivial)).mono ?_;rintro e dO ⟨rfl,rfl⟩))
   refine hK.out _ _ ?arI (fun hHeld=>?_)
   case arI=>(first | (first | exact fun p q h=>rfl | exact fun p q h=>hB.drew.cells hb1 p q h | exact fun p q h=>(hB1.cells hb2 p q h).trans (hB.drew.cells hb1 p q h) | exact fun p q h=>((hB2.cells ((Below.refl _ _).alloc (Nat.le_refl _) _) p q h).trans (hB1.cells hb2 p q h)).trans (hB.drew.cells hb1 p q h)) | (dsimp only;first | exact fun p q h=>rfl | exact fun p q h=>hB.drew.cells hb1 p q h | exact fun p q h=>(hB1.cells hb2 p q h).trans (hB.drew.cells hb1 p q h) | exact fun p q h=>((hB2.cells ((Below.refl _ _).alloc (Nat.le_refl _) _) p q h).trans (hB1.cells hb2 p q h)).trans (hB.drew.cells hb1 p q h)))
   clear hK K
   try simp only [Act.put,la,lz,ls]
   refine tr 4 fun K hK=>?_
   go_simp
   (first | (go_at_call 42;refine (xW S r s A c _ (hp.below hB.drew.bw)).mono ?_;rintro e w1 ⟨rfl,hb1⟩;have hB1:=hB.drew.call (by simp) hb1) | (go_at_call 35;refine (vS S x P d _ (hpp.below hB1.bw)).mono ?_;rintro e w2 ⟨rfl,hb2⟩;have hB2:=hB1.call (by simp) hb2) | (go_at_call 85;refine (first_any (fun _=>True) _ _ [M.jf r s,M.cZ x] _ (bD.lit _ _ [M.jf r s,M.cZ x] (by simp) _ trivial)).mono ?_;rintro e dO ⟨rfl,rfl⟩))
   refine hK.out _ _ ?TK (fun hHeld=>?_)
   case TK=>(first | (first | exact fun p q h=>rfl | exact fun p q h=>hB.drew.cells hb1 p q h | exact fun p q h=>(hB1.cells hb2 p q h).trans (hB.drew.cells hb1 p q h) | exact fun p q h=>((hB2.cells ((Below.refl _ _).alloc (Nat.le_refl _) _) p q h).trans (hB1.cells hb2 p q h)).trans (hB.drew.cells hb1 p q h)) | (dsimp only;first | exact fun p q h=>rfl | exact fun p q h=>hB.drew.cells hb1 p q h | exact fun p q h=>(hB1.cells hb2 p q h).trans (hB.drew.cells hb1 p q h) | exact fun p q h=>((hB2.cells ((Below.refl _ _).alloc (Nat.le_refl _) _) p q h).trans (hB1.cells hb2 p q h)).trans (hB.drew.cells hb1 p q h)))
   clear hK K
   try simp only [Act.put,la,lz,ls]
   refine tr 5 fun K hK=>?_
   go_simp
   refine hK.out _ _ ?arP (fun hHeld=>?_)
   case arP=>(first | (first | exact fun p q h=>rfl | exact fun p q h=>hB.drew.cells hb1 p q h | exact fun p q h=>(hB1.cells hb2 p q h).trans (hB.drew.cells hb1 p q h) | exact fun p q h=>((hB2.cells ((Below.refl _ _).alloc (Nat.le_refl _) _) p q h).trans (hB1.cells hb2 p q h)).trans (hB.drew.cells hb1 p q h)) | (dsimp only;first | exact fun p q h=>rfl | exact fun p q h=>hB.drew.cells hb1 p q h | exact fun p q h=>(hB1.cells hb2 p q h).trans (hB.drew.cells hb1 p q h) | exact fun p q h=>((hB2.cells ((Below.refl _ _).alloc (Nat.le_refl _) _) p q h).trans (hB1.cells hb2 p q h)).trans (hB.drew.cells hb1 p q h)))
   clear hK K
   try simp only [Act.put,la,lz,ls]
   refine tr 6 fun K hK=>?_
   go_simp
   (first | (go_at_call 42;refine (xW S r s A c _ (hp.below hB.drew.bw)).mono ?_;rintro e w1 ⟨rfl,hb1⟩;have hB1:=hB.drew.call (by simp) hb1) | (go_at_call 35;refine (vS S x P d _ (hpp.below hB1.bw)).mono ?_;rintro e w2 ⟨rfl,hb2⟩;have hB2:=hB1.call (by simp) hb2) | (go_at_call 85;refine (first_any (fun _=>True) _ _ [M.jf r s,M.cZ x] _ (bD.lit _ _ [M.jf r s,M.cZ x] (by simp) _ trivial)).mono ?_;rintro e dO ⟨rfl,rfl⟩))
   refine hK.out _ _ ?arW (fun hHeld=>?_)
   case arW=>(first | (first | exact fun p q h=>rfl | exact fun p q h=>hB.drew.cells hb1 p q h | exact fun p q h=>(hB1.cells hb2 p q h).trans (hB.drew.cells hb1 p q h) | exact fun p q h=>((hB2.cells ((Below.refl _ _).alloc (Nat.le_refl _) _) p q h).trans (hB1.cells hb2 p q h)).trans (hB.drew.cells hb1 p q h)) | (dsimp only;first | exact fun p q h=>rfl | exact fun p q h=>hB.drew.cells hb1 p q h | exact fun p q h=>(hB1.cells hb2 p q h).trans (hB.drew.cells hb1 p q h) | exact fun p q h=>((hB2.cells ((Below.refl _ _).alloc (Nat.le_refl _) _) p q h).trans (hB1.cells hb2 p q h)).trans (hB.drew.cells hb1 p q h)))
   clear hK K
   try simp only [Act.put,la,lz,ls]
   refine tk 7 ?_
   refine wpAnyH_done (by kernel_rfl) ?_ _
   go_wp2
   go_meet
   exact ⟨rfl,by first | exact hB2.alloc (by simp) _ | exact (hB2.alloc (by simp) _).drew⟩
  case rest=>
   obtain ⟨rfl,hC⟩:=hcut
   clear hB
   by_cases hz:aU [M.jf r s,M.cZ x]=0
   · have hz':(aU [M.jf r s,M.cZ x] != 0)=false:=by simp [hz]
     obtain ⟨q1,q2⟩:=acP hz
     obtain ⟨q3,q4,_⟩:=wL q2
     have q5:=Om (J4 q1)
     have hL:=fun W h h'=>Ig S r s x A P c d W h h' q3 (fun p hp=>(q4 p hp).1.1)
     have hF:=fun W h h'=>wO S r s x A P c d W h h' q3 (fun p hp=>(q4 p hp).1.1) q5.rules (zL q5.group)
     have HL:=hide hL
     have HF:=hide hF
     have HZ:=hide hz
     clear hL hF hz q1 q2 q3 q4 q5
     have hF:=hC.bf rfl
     go_upto_region 4 with (fail)
     go_cut [9] (fun v9 wx=>∃ D,v9=ptr D∧w.heap.size+3≤D∧bU w wx [([.string r.game,.int .i64 r.target,.int .i64 r.aY],23),(aW s A c,33),(au ⟨x,P,d⟩,66)]∧Held wx D (ah r s A c) 127)
     case first=>
      have k0:=hF.cell (j:=0) rfl
      have GL:=hF.frozen 0
      have k1:=hF.cell (j:=1) rfl
      have JE:=hF.frozen 1
      have k2:=hF.cell (j:=2) rfl
      have Pn:=hF.frozen 2
      have hD:=hC.alloc (by simp) (.cells aK.toArray 127)
      have hG:=Held.new wc aK 127
      have hSt:Held wc (w.heap.size+1) [.int .i64 s.turn,.bool s.brk,.bool s.hand,.bool s.push,.bool s.pushed,.int .i64 s.group,.slice A s.ay.length c,.int .i64 s.s0,.int .i64 s.s1,.int .i64 s.f0,.int .i64 s.f1,.int .i64 s.run,.int .i64 s.aZ,.bool s.over,.int .i64 s.bC] 33:=hC.get 1 rfl
      have xA:=hC.size (by simp)
      simp only [List.length_cons,List.length_nil] at xA
      go_wp2_with (first | (refine aN 33 (.tmp 4) rfl ?_;refine aG (hSt) Tryz.underlying33 rfl bW rfl (.tmp 4) rfl rfl ?_) | (refine aO 127 (.tmp 9) (.tmp 22) rfl ?_;refine aF (hG) (ah r (s) A c) rfl ak (aX _ _ _ _) rfl (.tmp 9) (.tmp 22) rfl rfl rfl ?_))
      go_meet
      exact ⟨wc.heap.size,rfl,xA,hD.PS xA _ 0,hG.whole _ rfl⟩
     case rest=>
      clear hC hF
      obtain ⟨D,rfl,hD,hC,hG⟩:=hcut
      by_cases hl:M.legal r s x=0
      · have hl':(M.legal r s x != 0)=false:=by simp [hl]
        have he:abS r s x=0:=by unfold abS;rw [if_neg (by simp [HZ.out]),if_neg (by simp [hl])]
        have hv:ab1 r s x=M.iW r s x:=if_pos he
        have HE:=hide (And.intro he hv)
        clear hl he hv
        go_wp2_with (first | (refine aN 127 (.tmp 9) rfl ?_;refine aG (hG4) Tryz.underlying127 rfl ak rfl (.tmp 9) rfl rfl ?_) | (refine aN 127 (.tmp 9) rfl ?_;refine aG (hG) Tryz.underlying127 rfl ak rfl (.tmp 9) rfl rfl ?_) | (refine aN 66 (.tmp 5) rfl ?_;refine aG (hC4.get 2 rfl) Tryz.underlying66 rfl aV rfl (.tmp 5) rfl rfl ?_) | (refine aN 66 (.tmp 5) rfl ?_;refine aG (hC.get 2 rfl) Tryz.underlying66 rfl aV rfl (.tmp 5) rfl rfl ?_) | (go_at_call 96;refine (HL.out _ (hp.below hC.bw) (hpp.below hC.bw)).mono ?_;rintro e w4 ⟨rfl,hb4⟩;have hC4:=hC.call (by simp) hb4;have hG4:=hG.below hb4) | (go_at_call 66;refine (HF.out _ (hp.below hC4.bw) (hpp.below hC4.bw)).mono ?_;rintro e w5 ⟨rfl,hb5⟩;have hC5:=hC4.call (by simp) hb5))
        go_ret2
        exact ⟨by rw [HE.out.1,HE.out.2];rfl,hC5.bw⟩
      · have hl':(M.legal r s x != 0)=true:=by simp [hl]
        have he:abS r s x=18:=by unfold abS;rw [if_neg (by simp [HZ.out]),if_pos hl]
        have hv:ab1 r s x=0:=by unfold ab1;rw [if_neg (by rw [he];decide)]
        have HE:=hide (And.intro he hv)
        clear hl he hv
        go_wp2_with (first | (refine aN 127 (.tmp 9) rfl ?_;refine aG (hG) Tryz.underlying127 rfl ak rfl (.tmp 9) rfl rfl ?_) | (refine aN 66 (.tmp 5) rfl ?_;refine aG (hC.get 2 rfl) Tryz.underlying66 rfl aV rfl (.tmp 5) rfl rfl ?_) | (go_at_call 96;refine (HL.out _ (hp.below hC.bw) (hpp.below hC.bw)).mono ?_;rintro e w4 ⟨rfl,hb4⟩;have hC4:=hC.call (by simp) hb4;have hG4:=hG.below hb4))
        go_ret2
        exact ⟨by rw [HE.out.1,HE.out.2];rfl,hC4.bw⟩
   · have hz':(aU [M.jf r s,M.cZ x] != 0)=true:=by simp [hz]
     have he:abS r s x=aU [M.jf r s,M.cZ x]:=by unfold abS;rw [if_pos hz]
     have hv:ab1 r s x=0:=by unfold ab1;rw [if_neg (by rw [he];exact hz)]
     have HE:=hide (And.intro he hv)
     clear hz he hv
     go_wp2
     go_ret2
     exact ⟨by rw [HE.out.1,HE.out.2];rfl,hC.bw⟩
end Go.Proofs.YtelpepbpdojikaaGreatDoor
