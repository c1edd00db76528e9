/- Parts of the proofs about chapter 5 (pool), joined by program. -/
import Derived.Test.YtelpepbpdojikaaGreatDoorKg29
import Derived.Test.YtelpepbpdojikaaGreatDoorKz11
import Derived.Test.YtelpepbpdojikaaGreatDoorKz3
import Derived.Test.YtelpepbpdojikaaGreatDoorKz7
set_option maxHeartbeats 4000000
set_option maxRecDepth 100000
set_option linter.unusedVariables false
set_option linter.unusedSimpArgs false
namespace Go.Proofs.YtelpepbpdojikaaGreatDoor
open Go.RowKit
def Zx (r:M.Rules) (s:M.State) (x:M.aI):Int:=
 if aU [M.jf r s,M.cZ x]≠0 then aU [M.jf r s,M.cZ x] else if M.legal r s x≠0 then 18 else M.iP r (M.next r s x)
def ZQ (r:M.Rules) (s:M.State) (x:M.aI):M.State:=if Zx r s x=0 then M.next r s x else M.zero
theorem Held.sub {W:World} {g:Nat} {cs:List Value} {t:TypeId} (h:Held W g cs t) (o:Nat) (mid:List Value) (hm:∀ j v,mid[j]? =some v→cs[o+j]? =some v):W.rangeAt g o mid:=fun j v hj=>h.cell (hm j v hj)
theorem Zt {ops:Array Oper} {rest:List Oper} {op:Oper} {a:Act} {W:World} {Q:Exit→Act→World→Prop} {g:Nat} {r:M.Rules} {s:M.State} {A:Option Addr} {c:Nat} (h:Held W g (ah r s A c) 127) (hgd:op.guard=none) (x:Operand) (ho:op.op= .load 33 x) (hx:a.eval x= .pointer (some ⟨g,3,none⟩))
 (k:wpList Tryz.prog ops Q rest (a.put op.dst (.agg (aW s A c).toArray)) W):vN Tryz.prog ops Q op rest a W:=
 wpList_load_mid hgd 33 x ho g 3 hx (aW s A c) _ (h.sub 3 _ (Jz r s A c)) Tryz.underlying33 rfl bW k
theorem ajo (S:Nat→Prop) (r:M.Rules) (s:M.State) (x:M.aI) (A P:Option Addr) (c d:Nat) (w:World) (hp:bD w S A c s.ay) (hpp:jl w S P d x.aA):
 Calls Tryz.prog 44 #[jM r,wF s A c,iO x P d] w fun e w'=>∃ A' c',e= .returned (.tuple #[wF (ZQ r s x) A' c',.int .i64 (Zx r s x)])∧bD w' (fun b=>w.heap.size≤b) A' c' (ZQ r s x).ay∧Below w.heap.size w w':=by
 go_enter Tryz.func44,Tryz.ntmps44
 go_upto_region 0 with (fail)
 go_cut [3,4,5,6,7] (fun v3 v4 v5 v6 v7 wx=>v3=ptr w.heap.size∧v4=ptr (w.heap.size+1)∧v5=ptr (w.heap.size+2)∧v6=ptr (w.heap.size+3)∧v7= .int .i64 0∧bU w wx [([.string r.game,.int .i64 r.target,.int .i64 r.aY],23),(aW s A c,33),(au ⟨x,P,d⟩,66),(aj,33)])
 case first=>
  go_wp2
  go_meet
  exact ⟨rfl,rfl,rfl,rfl,rfl,(((((bU.nil w).new (by simp) ([.string r.game,.int .i64 r.target,.int .i64 r.aY]) _).new (by simp) (aW s A c) _).new (by simp) (au ⟨x,P,d⟩) _).new (by simp) (aj) _)⟩
 case rest=>
  obtain ⟨rfl,rfl,rfl,rfl,rfl,hB⟩:=hcut
  go_upto_region 1 with (fail)
  go_cut [8] (fun v wx=>v= .int .i64 (aU [M.jf r s,M.cZ x])∧bU w wx [([.string r.game,.int .i64 r.target,.int .i64 r.aY],23),(aW s A c,33),(au ⟨x,P,d⟩,66),(aj,33)])
  case first=>
   have hF:=hB.bf rfl
   have k0:=hF.cell (j:=0) rfl
   have GL:=hF.frozen 0
   have k1:=hF.cell (j:=1) rfl
   have JE:=hF.frozen 1
   have k2:=hF.cell (j:=2) rfl
   have Pn:=hF.frozen 2
   have hrS:∀ W:World,(fun w':World=>∀ p q,p<w.heap.size+4→w'.cell? ⟨p,q,none⟩=wc.cell? ⟨p,q,none⟩) W→W.rangeAt (w.heap.size+1) 0 (aW s A c):=fun W h j v hj=>by rw [h _ _ (by omega)];exact (hB.get 1 rfl).range j v hj
   have GK:∀ W:World,(fun w':World=>∀ p q,p<w.heap.size+4→w'.cell? ⟨p,q,none⟩=wc.cell? ⟨p,q,none⟩) W→W.rangeAt (w.heap.size+2) 0 (au ⟨x,P,d⟩):=fun W h j v hj=>by rw [h _ _ (by omega)];exact (hB.get 2 rfl).range j v hj
   refine wp_region_held_drew (S:=(fun w':World=>∀ p q,p<w.heap.size+4→w'.cell? ⟨p,q,none⟩=wc.cell? ⟨p,q,none⟩)) (by kernel_rfl) ?zV (fun hHeld=>?_)
   case zV=>first | exact fun p q h=>rfl | exact fun p q h=>hB.drew.cells hb1 p q h | exact fun p q h=>(hB1.cells hb2 p q h).trans (hB.drew.cells hb1 p q h) | exact fun p q h=>((hB2.cells ((Below.refl _ _).alloc (Nat.le_refl _) _) p q h).trans (hB1.cells hb2 p q h)).trans (hB.drew.cells hb1 p q h)
   refine tk 0 ?_
   refine wpAnyH_take (i:=1) (oi:=_) (v:=_) (ga rfl) (by kernel_rfl) (by kernel_rfl) (by kernel_rfl) (fun _ _ _ h=>h) (yieldsIf_load_mid (by rfl) _ _ (by rfl) _ _ (by rfl) _ _ hrS Tryz.underlying33 rfl (by kernel_rfl)) (by assumption) ?_
   try simp only [Act.put,la,lz,ls]
   refine wpAnyH_take (i:=3) (oi:=_) (v:=_) (ga rfl) (by kernel_rfl) (by kernel_rfl) (by kernel_rfl) (fun _ _ _ h=>h) (yieldsIf_load_mid (by rfl) _ _ (by rfl) _ _ (by rfl) _ _ GK Tryz.underlying66 rfl (by kernel_rfl)) (by assumption) ?_
   try simp only [Act.put,la,lz,ls]
   refine tr 2 fun K hK=>?_
   go_simp
   (first | (go_at_call 42;refine (xW S r s A c _ (hp.below hB.drew.bw)).mono ?_;rintro e w1 ⟨rfl,hb1⟩;have hB1:=hB.drew.call (by simp) hb1) | (go_at_call 35;refine (vS S x P d _ (hpp.below hB1.bw)).mono ?_;rintro e w2 ⟨rfl,hb2⟩;have hB2:=hB1.call (by simp) hb2) | (go_at_call 85;refine (first_any (fun _=>True) _ _ [M.jf r s,M.cZ x] _ (bD.lit _ _ [M.jf r s,M.cZ x] (by simp) _ trivial)).mono ?_;rintro e dO ⟨rfl,rfl⟩))
   refine hK.out _ _ ?ap4 (fun hHeld=>?_)
   case ap4=>(first | (first | exact fun p q h=>rfl | exact fun p q h=>hB.drew.cells hb1 p q h | exact fun p q h=>(hB1.cells hb2 p q h).trans (hB.drew.cells hb1 p q h) | exact fun p q h=>((hB2.cells ((Below.refl _ _).alloc (Nat.le_refl _) _) p q h).trans (hB1.cells hb2 p q h)).trans (hB.drew.cells hb1 p q h)) | (dsimp only;first | exact fun p q h=>rfl | exact fun p q h=>hB.drew.cells hb1 p q h | exact fun p q h=>(hB1.cells hb2 p q h).trans (hB.drew.cells hb1 p q h) | exact fun p q h=>((hB2.cells ((Below.refl _ _).alloc (Nat.le_refl _) _) p q h).trans (hB1.cells hb2 p q h)).trans (hB.drew.cells hb1 p q h)))
   clear hK K
   try simp only [Act.put,la,lz,ls]
   refine tr 4 fun K hK=>?_
   go_simp
   (first | (go_at_call 42;refine (xW S r s A c _ (hp.below hB.drew.bw)).mono ?_;rintro e w1 ⟨rfl,hb1⟩;have hB1:=hB.drew.call (by simp) hb1) | (go_at_call 35;refine (vS S x P d _ (hpp.below hB1.bw)).mono ?_;rintro e w2 ⟨rfl,hb2⟩;have hB2:=hB1.call (by simp) hb2) | (go_at_call 85;refine (first_any (fun _=>True) _ _ [M.jf r s,M.cZ x] _ (bD.lit _ _ [M.jf r s,M.cZ x] (by simp) _ trivial)).mono ?_;rintro e dO ⟨rfl,rfl⟩))
   refine hK.out _ _ ?TK (fun hHeld=>?_)
   case TK=>(first | (first | exact fun p q h=>rfl | exact fun p q h=>hB.drew.cells hb1 p q h | exact fun p q h=>(hB1.cells hb2 p q h).trans (hB.drew.cells hb1 p q h) | exact fun p q h=>((hB2.cells ((Below.refl _ _).alloc (Nat.le_refl _) _) p q h).trans (hB1.cells hb2 p q h)).trans (hB.drew.cells hb1 p q h)) | (dsimp only;first | exact fun p q h=>rfl | exact fun p q h=>hB.drew.cells hb1 p q h | exact fun p q h=>(hB1.cells hb2 p q h).trans (hB.drew.cells hb1 p q h) | exact fun p q h=>((hB2.cells ((Below.refl _ _).alloc (Nat.le_refl _) _) p q h).trans (hB1.cells hb2 p q h)).trans (hB.drew.cells hb1 p q h)))
   clear hK K
   try simp only [Act.put,la,lz,ls]
   refine tr 5 fun K hK=>?_
   go_simp
   refine hK.out _ _ ?aqb (fun hHeld=>?_)
   case aqb=>(first | (first | exact fun p q h=>rfl | exact fun p q h=>hB.drew.cells hb1 p q h | exact fun p q h=>(hB1.cells hb2 p q h).trans (hB.drew.cells hb1 p q h) | exact fun p q h=>((hB2.cells ((Below.refl _ _).alloc (Nat.le_refl _) _) p q h).trans (hB1.cells hb2 p q h)).trans (hB.drew.cells hb1 p q h)) | (dsimp only;first | exact fun p q h=>rfl | exact fun p q h=>hB.drew.cells hb1 p q h | exact fun p q h=>(hB1.cells hb2 p q h).trans (hB.drew.cells hb1 p q h) | exact fun p q h=>((hB2.cells ((Below.refl _ _).alloc (Nat.le_refl _) _) p q h).trans (hB1.cells hb2 p q h)).trans (hB.drew.cells hb1 p q h)))
   clear hK K
   try simp only [Act.put,la,lz,ls]
   refine tr 6 fun K hK=>?_
   go_simp
   (first | (go_at_call 42;refine (xW S r s A c _ (hp.below hB.drew.bw)).mono ?_;rintro e w1 ⟨rfl,hb1⟩;have hB1:=hB.drew.call (by simp) hb1) | (go_at_call 35;refine (vS S x P d _ (hpp.below hB1.bw)).mono ?_;rintro e w2 ⟨rfl,hb2⟩;have hB2:=hB1.call (by simp) hb2) | (go_at_call 85;refine (first_any (fun _=>True) _ _ [M.jf r s,M.cZ x] _ (bD.lit _ _ [M.jf r s,M.cZ x] (by simp) _ trivial)).mono ?_;rintro e dO ⟨rfl,rfl⟩))
   refine hK.out _ _ ?aqi (fun hHeld=>?_)
   case aqi=>(first | (first | exact fun p q h=>rfl | exact fun p q h=>hB.drew.cells hb1 p q h | exact fun p q h=>(hB1.cells hb2 p q h).trans (hB.drew.cells hb1 p q h) | exact fun p q h=>((hB2.cells ((Below.refl _ _).alloc (Nat.le_refl _) _) p q h).trans (hB1.cells hb2 p q h)).trans (hB.drew.cells hb1 p q h)) | (dsimp only;first | exact fun p q h=>rfl | exact fun p q h=>hB.drew.cells hb1 p q h | exact fun p q h=>(hB1.cells hb2 p q h).trans (hB.drew.cells hb1 p q h) | exact fun p q h=>((hB2.cells ((Below.refl _ _).alloc (Nat.le_refl _) _) p q h).trans (hB1.cells hb2 p q h)).trans (hB.drew.cells hb1 p q h)))
   clear hK K
   try simp only [Act.put,la,lz,ls]
   refine tk 7 ?_
   refine wpAnyH_done (by kernel_rfl) ?_ _
   go_wp2
   go_meet
   exact ⟨rfl,by first | exact hB2.alloc (by simp) _ | exact (hB2.alloc (by simp) _).drew⟩
  case rest=>
   obtain ⟨rfl,hC⟩:=hcut
   clear hB
   by_cases hz:aU [M.jf r s,M.cZ x]=0
   · have hz':(aU [M.jf r s,M.cZ x] != 0)=false:=by simp [hz]
     obtain ⟨q1,q2⟩:=abK hz
     obtain ⟨hr,hk⟩:=M.agv q1
     obtain ⟨q3,q4,_⟩:=wL q2
     have hL:=fun W h h'=>Ig S r s x A P c d W h h' q3 (fun p hp=>(q4 p hp).1.1)
     have HL:=hide hL
     have HZ:=hide hz
     have HQ2:=hide q2
     clear hL hz q1 q2 q3 q4
     have hF:=hC.bf rfl
     go_upto_region 4 with (fail)
     go_cut [9] (fun v9 wx=>∃ D,v9=ptr D∧w.heap.size+4≤D∧bU w wx [([.string r.game,.int .i64 r.target,.int .i64 r.aY],23),(aW s A c,33),(au ⟨x,P,d⟩,66),(aj,33)]∧Held wx D (ah r s A c) 127)
     case first=>
      have k0:=hF.cell (j:=0) rfl
      have GL:=hF.frozen 0
      have k1:=hF.cell (j:=1) rfl
      have JE:=hF.frozen 1
      have k2:=hF.cell (j:=2) rfl
      have Pn:=hF.frozen 2
      have hD:=hC.alloc (by simp) (.cells aK.toArray 127)
      have hG:=Held.new wc aK 127
      have hSt:Held wc (w.heap.size+1) [.int .i64 s.turn,.bool s.brk,.bool s.hand,.bool s.push,.bool s.pushed,.int .i64 s.group,.slice A s.ay.length c,.int .i64 s.s0,.int .i64 s.s1,.int .i64 s.f0,.int .i64 s.f1,.int .i64 s.run,.int .i64 s.aZ,.bool s.over,.int .i64 s.bC] 33:=hC.get 1 rfl
      have xA:=hC.size (by simp)
      simp only [List.length_cons,List.length_nil] at xA
      go_wp2_with (first | (refine aN 33 (.tmp 4) rfl ?_;refine aG (hSt) Tryz.underlying33 rfl bW rfl (.tmp 4) rfl rfl ?_) | (refine aO 127 (.tmp 9) (.tmp 25) rfl ?_;refine aF (hG) (ah r (s) A c) rfl ak (aX _ _ _ _) rfl (.tmp 9) (.tmp 25) rfl rfl rfl ?_))
      go_meet
      exact ⟨wc.heap.size,rfl,xA,hD.PS xA _ 0,hG.whole _ rfl⟩
     case rest=>
      clear hC hF
      obtain ⟨D,rfl,hD,hC,hG⟩:=hcut
      by_cases hl:M.legal r s x=0
      · have hl':(M.legal r s x != 0)=false:=by simp [hl]
        have hN:=fun W h h'=>next_any S 99999 r s x A P c d W h h' HQ2.out hr hk (by omega) (M.lawful hl)
        have HN:=hide hN
        have hne:Zx r s x=M.iP r (M.next r s x):=by unfold Zx;rw [if_neg (by simp [HZ.out]),if_neg (by simp [hl])]
        have HNE:=hide hne
        have HLZ:=hide hl
        clear hN hl hne
        go_upto_region 7 with (first | (refine aN 127 (.tmp 9) rfl ?_;refine aG (hG) Tryz.underlying127 rfl ak rfl (.tmp 9) rfl rfl ?_) | (refine aN 66 (.tmp 5) rfl ?_;refine aG (hC.get 2 rfl) Tryz.underlying66 rfl aV rfl (.tmp 5) rfl rfl ?_) | (go_at_call 96;refine (HL.out _ (hp.below hC.bw) (hpp.below hC.bw)).mono ?_;rintro e w4 ⟨rfl,hb4⟩;have hC4:=hC.call (by simp) hb4;have hG4:=hG.below hb4))
        go_cut [10] (fun v10 wx=>∃ D2 A5 c5,v10=ptr D2∧w.heap.size+4≤D2∧bU w wx [([.string r.game,.int .i64 r.target,.int .i64 r.aY],23),(aW s A c,33),(au ⟨x,P,d⟩,66),(aj,33)]∧Held wx D2 (ah r (M.next r s x) A5 c5) 127∧bD wx (fun b=>w.heap.size+4≤b) A5 c5 (M.next r s x).ay)
        case first=>
         have xA:=hC4.size (by simp)
         simp only [List.length_cons,List.length_nil] at xA
         go_wp2_with (first | (refine aN 127 (.tmp 9) rfl ?_;refine aG (hG4) Tryz.underlying127 rfl ak rfl (.tmp 9) rfl rfl ?_) | (refine aN 66 (.tmp 5) rfl ?_;refine aG (hC4.get 2 rfl) Tryz.underlying66 rfl aV rfl (.tmp 5) rfl rfl ?_) | (go_at_call 97;refine (HN.out _ (hp.below hC4.bw) (hpp.below hC4.bw)).mono ?_;rintro e w5 ⟨A5,c5,rfl,SC,hb5⟩;have hC5:=hC4.call (by simp) hb5;have hC6:=hC5.alloc (by simp) (.cells aK.toArray 127);have hG6:=Held.new w5 aK 127) | (refine aO 127 (.tmp 10) (.tmp 33) rfl ?_;refine aF (hG6) (ah r (M.next r s x) A5 c5) rfl ak (aX _ _ _ _) rfl (.tmp 10) (.tmp 33) rfl rfl rfl ?_))
         go_meet
         have hsz5:=hC5.size (by simp)
         simp only [List.length_cons,List.length_nil] at hsz5
         exact ⟨w5.heap.size,A5,c5,rfl,hsz5,hC6.PS hsz5 _ 0,hG6.whole _ rfl,(bD.sets (S:=fun b=>w.heap.size+4≤b∧b≠w5.heap.size) (fun h=>h.2 rfl) _ 0 _ ((SC.more (fun b hb h=>⟨by omega,by omega⟩)).alloc _)).more (fun b _ h=>h.1)⟩
        case rest=>
         clear hC hG
         obtain ⟨D2,A5,c5,rfl,hD2,hC,hG,SC⟩:=hcut
         have hF:=hC.bf rfl
         have xA:=hC.size (by simp)
         simp only [List.length_cons,List.length_nil] at xA
         have hg6:¬ (fun b=>w.heap.size+4≤b) (w.heap.size+3):=fun h=>by
          have h:w.heap.size+4≤w.heap.size+3:=h
          omega
         obtain ⟨ne,hne⟩:∃ q,M.iP r (M.next r s x)=q:=⟨_,rfl⟩
         have hnb:=fun W=>vI r (M.next r s x) A5 c5 W
         rw [hne] at hnb
         have VL:=hide hnb
         have VP:=hide hne
         clear hnb hne
         have k0:=hF.cell (j:=0) rfl
         have GL:=hF.frozen 0
         have k1:=hF.cell (j:=1) rfl
         have JE:=hF.frozen 1
         have k2:=hF.cell (j:=2) rfl
         have Pn:=hF.frozen 2
         by_cases hy:ne=0
         · have hy':(ne != 0)=false:=by simp [hy]
           have hns:ZQ r s x=M.next r s x∧Zx r s x=0:=by have h1:=HNE.out;rw [VP.out,hy] at h1;exact ⟨by unfold ZQ;rw [if_pos h1],h1⟩
           have VN:=hide hns
           clear hy hns
           go_wp2_with (first | (refine aN 33 (.tmp 35) rfl ?_;refine Zt (hG8) rfl (.tmp 35) rfl rfl ?_) | (refine aN 33 (.tmp 35) rfl ?_;refine Zt (hG) rfl (.tmp 35) rfl rfl ?_) | (go_at_call 93;refine (VL.out _).mono ?_;rintro e w8 ⟨rfl,hb8⟩;have hC8:=hC.call (by simp) hb8;have hG8:=hG.below hb8) | (refine aN 33 (.tmp 42) rfl ?_;refine Zt (hG8) rfl (.tmp 42) rfl rfl ?_) | (refine aO 33 (.tmp 6) (.tmp 43) rfl ?_;refine aF (hC8.get 3 rfl) (aW (M.next r s x) A5 c5) rfl bW (dL _ _ _) rfl (.tmp 6) (.tmp 43) rfl rfl rfl ?_))
           have hE:=hC8.put 3 rfl (aW (M.next r s x) A5 c5) rfl
           refine bodyPost_ret (ZB (p:=6) (hE.get 3 rfl) Tryz.underlying33 rfl bW rfl _ rfl) rfl ⟨A5,c5,?_,?_,hE.bw⟩
           · rw [VN.out.1,VN.out.2];rfl
           · rw [VN.out.1];exact (bD.sets hg6 _ 0 _ (SC.below hb8)).more (fun b _ h=>by omega)
         · have hy':(ne != 0)=true:=by simp [hy]
           have hns:ZQ r s x=M.zero∧Zx r s x=ne:=by have h1:=HNE.out;rw [VP.out] at h1;exact ⟨by unfold ZQ;rw [if_neg (by rw [h1];exact hy)],h1⟩
           have VN:=hide hns
           clear hy hns
           go_wp2_with (first | (refine aN 33 (.tmp 35) rfl ?_;refine Zt (hG) rfl (.tmp 35) rfl rfl ?_) | (go_at_call 93;refine (VL.out _).mono ?_;rintro e w8 ⟨rfl,hb8⟩;have hC8:=hC.call (by simp) hb8;have hG8:=hG.below hb8) | (refine aO 33 (.tmp 6) (.tmp 40) rfl ?_;refine aF (hC8.get 3 rfl) (aj) rfl bW (dL M.zero none 0) rfl (.tmp 6) (.tmp 40) rfl rfl rfl ?_))
           have hE:=hC8.put 3 rfl aj rfl
           refine bodyPost_ret (ZB (p:=6) (hE.get 3 rfl) Tryz.underlying33 rfl bW rfl _ rfl) rfl ⟨none,0,?_,?_,hE.bw⟩
           · rw [VN.out.1,VN.out.2];rfl
           · rw [VN.out.1];exact Reads.none_ _ _ _
      · have hl':(M.legal r s x != 0)=true:=by simp [hl]
        have hns:ZQ r s x=M.zero∧Zx r s x=18:=by
         have h1:Zx r s x=18:=by unfold Zx;rw [if_neg (by simp [HZ.out]),if_pos hl]
         exact ⟨by unfold ZQ;rw [if_neg (by rw [h1];decide)],h1⟩
        have VN:=hide hns
        clear hl hns
        go_wp2_with (first | (refine aN 127 (.tmp 9) rfl ?_;refine aG (hG) Tryz.underlying127 rfl ak rfl (.tmp 9) rfl rfl ?_) | (refine aN 66 (.tmp 5) rfl ?_;refine aG (hC.get 2 rfl) Tryz.underlying66 rfl aV rfl (.tmp 5) rfl rfl ?_) | (go_at_call 96;refine (HL.out _ (hp.below hC.bw) (hpp.below hC.bw)).mono ?_;rintro e w4 ⟨rfl,hb4⟩;have hC4:=hC.call (by simp) hb4;have hG4:=hG.below hb4) | (refine aO 33 (.tmp 6) (.tmp 30) rfl ?_;refine aF (hC4.get 3 rfl) (aj) rfl bW (dL M.zero none 0) rfl (.tmp 6) (.tmp 30) rfl rfl rfl ?_))
        have hE:=hC4.put 3 rfl aj rfl
        refine bodyPost_ret (ZB (p:=6) (hE.get 3 rfl) Tryz.underlying33 rfl bW rfl _ rfl) rfl ⟨none,0,?_,?_,hE.bw⟩
        · rw [VN.out.1,VN.out.2];rfl
        · rw [VN.out.1];exact Reads.none_ _ _ _
   · have hz':(aU [M.jf r s,M.cZ x] != 0)=true:=by simp [hz]
     have hne:Zx r s x=aU [M.jf r s,M.cZ x]:=by unfold Zx;rw [if_pos hz]
     have hns:ZQ r s x=M.zero:=by unfold ZQ;rw [if_neg (by rw [hne];exact hz)]
     have HNE:=hide hne
     have VN:=hide hns
     clear hz hne hns
     go_wp2_with (first | (refine aO 33 (.tmp 6) (.tmp 21) rfl ?_;refine aF (hC.get 3 rfl) (aj) rfl bW (dL M.zero none 0) rfl (.tmp 6) (.tmp 21) rfl rfl rfl ?_))
     have hE:=hC.put 3 rfl aj rfl
     refine bodyPost_ret (ZB (p:=6) (hE.get 3 rfl) Tryz.underlying33 rfl bW rfl _ rfl) rfl ⟨none,0,?_,?_,hE.bw⟩
     · rw [HNE.out,VN.out];rfl
     · rw [VN.out];exact Reads.none_ _ _ _
end Go.Proofs.YtelpepbpdojikaaGreatDoor
