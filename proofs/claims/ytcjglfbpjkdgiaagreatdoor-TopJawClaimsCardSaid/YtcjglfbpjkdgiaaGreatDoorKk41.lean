/- Parts of a proof. -/
import Derived.Test.YtcjglfbpjkdgiaaGreatDoorKk22
import Derived.Test.YtcjglfbpjkdgiaaGreatDoorKk23
set_option maxHeartbeats 4000000
set_option maxRecDepth 100000
set_option linter.unusedVariables false
set_option linter.unusedSimpArgs false
namespace Go.Proofs.YtcjglfbpjkdgiaaGreatDoor
open Go.RowKit
def qG (r:M.Rules) (s:M.State) (x:M.aV):Int:=
 if aS [M.eH r s,M.bT x]≠0 then aS [M.eH r s,M.bT x] else if M.legal r s x≠0 then 18 else M.dK r (M.next r s x)
def uI (r:M.Rules) (s:M.State) (x:M.aV):M.State:=if qG r s x=0 then M.next r s x else M.zero
theorem Held.sub {W:World} {g:Nat} {cs:List Value} {t:TypeId} (h:Held W g cs t) (o:Nat) (mid:List Value) (hm:∀ j v,mid[j]? =some v→cs[o+j]? =some v):W.rangeAt g o mid:=fun j v hj=>h.cell (hm j v hj)
theorem vF (r:M.Rules) (s:M.State) (A:Option Addr) (c:Nat):∀ j v,(aJ s A c)[j]? =some v→(aj r s A c)[3+j]? =some v:=by
 intro j v hj;rw [show aj r s A c=[.string r.game,.int .i64 r.target,.int .i64 r.bD]++aJ s A c from rfl,List.getElem?_append_right (by simp)]
 simpa using hj
theorem oQ {ops:Array Oper} {rest:List Oper} {op:Oper} {a:Act} {W:World} {Q:Exit→Act→World→Prop} {g:Nat} {r:M.Rules} {s:M.State} {A:Option Addr} {c:Nat} (h:Held W g (aj r s A c) 99) (hgd:op.guard=none) (x:Operand) (ho:op.op= .load 53 x) (hx:a.eval x= .pointer (some ⟨g,3,none⟩))
 (k:wpList Tryz.prog ops Q rest (a.put op.dst (.agg (aJ s A c).toArray)) W):sO Tryz.prog ops Q op rest a W:=
 wpList_load_mid hgd 53 x ho g 3 hx (aJ s A c) _ (h.sub 3 _ (vF r s A c)) Tryz.underlying53 rfl bg k
theorem Qu (S:Nat→Prop) (r:M.Rules) (s:M.State) (x:M.aV) (A P:Option Addr) (c d:Nat) (w:World) (hp:bQ w S A c s.au) (hpp:fP w S P d x.aC):
 Calls Tryz.prog 19 #[iJ r,oK s A c,iy x P d] w fun e w'=>∃ A' c',e= .returned (.tuple #[oK (uI r s x) A' c',.int .i64 (qG r s x)])∧bQ w' (fun b=>w.heap.size≤b) A' c' (uI r s x).au∧Below w.heap.size w w':=by
 go_enter Tryz.func19,Tryz.ntmps19
 go_upto_region 0 with (fail)
 go_cut [3,4,5,6,7] (fun v3 v4 v5 v6 v7 wx=>v3=ptr w.heap.size∧v4=ptr (w.heap.size+1)∧v5=ptr (w.heap.size+2)∧v6=ptr (w.heap.size+3)∧v7= .int .i64 0∧aX w wx [([.string r.game,.int .i64 r.target,.int .i64 r.bD],23),(aJ s A c,53),(aA ⟨x,P,d⟩,27),(aZ,53)])
 case first=>
  go_wp2;go_meet;exact ⟨rfl,rfl,rfl,rfl,rfl,(((((aX.nil w).new (by simp) ([.string r.game,.int .i64 r.target,.int .i64 r.bD]) _).new (by simp) (aJ s A c) _).new (by simp) (aA ⟨x,P,d⟩) _).new (by simp) (aZ) _)⟩
 case rest=>
  obtain ⟨rfl,rfl,rfl,rfl,rfl,hB⟩:=hcut
  go_upto_region 1 with (fail)
  go_cut [8] (fun v wx=>v= .int .i64 (aS [M.eH r s,M.bT x])∧aX w wx [([.string r.game,.int .i64 r.target,.int .i64 r.bD],23),(aJ s A c,53),(aA ⟨x,P,d⟩,27),(aZ,53)])
  case first=>
   have hF:=hB.ah rfl;have k0:=hF.cell (j:=0) rfl;have EK:=hF.frozen 0;have k1:=hF.cell (j:=1) rfl;have Lm:=hF.frozen 1;have k2:=hF.cell (j:=2) rfl;have Um:=hF.frozen 2
   have hrS:∀ W:World,(fun w':World=>∀ p q,p<w.heap.size+4→w'.cell? ⟨p,q,none⟩=wc.cell? ⟨p,q,none⟩) W→W.rangeAt (w.heap.size+1) 0 (aJ s A c):=fun W h j v hj=>by rw [h _ _ (by omega)];exact (hB.get 1 rfl).range j v hj
   have Ll:∀ W:World,(fun w':World=>∀ p q,p<w.heap.size+4→w'.cell? ⟨p,q,none⟩=wc.cell? ⟨p,q,none⟩) W→W.rangeAt (w.heap.size+2) 0 (aA ⟨x,P,d⟩):=fun W h j v hj=>by rw [h _ _ (by omega)];exact (hB.get 2 rfl).range j v hj
   refine wp_region_held_drew (S:=(fun w':World=>∀ p q,p<w.heap.size+4→w'.cell? ⟨p,q,none⟩=wc.cell? ⟨p,q,none⟩)) (by kernel_rfl) ?lQ (fun hHeld=>?_)
   case lQ=>first | exact fun p q h=>rfl | exact fun p q h=>hB.drew.cells hb1 p q h | exact fun p q h=>(hB1.cells hb2 p q h).trans (hB.drew.cells hb1 p q h) | exact fun p q h=>((hB2.cells ((Below.refl _ _).alloc (Nat.le_refl _) _) p q h).trans (hB1.cells hb2 p q h)).trans (hB.drew.cells hb1 p q h)
   refine tk 0 ?_;refine wpAnyH_take (i:=1) (oi:=_) (v:=_) (ga rfl) (by kernel_rfl) (by kernel_rfl) (by kernel_rfl) (fun _ _ _ h=>h) (yieldsIf_load_mid (by rfl) _ _ (by rfl) _ _ (by rfl) _ _ hrS Tryz.underlying53 rfl (by kernel_rfl)) (by assumption) ?_
   try simp only [Act.put,la,lz,ls]
   refine wpAnyH_take (i:=3) (oi:=_) (v:=_) (ga rfl) (by kernel_rfl) (by kernel_rfl) (by kernel_rfl) (fun _ _ _ h=>h) (yieldsIf_load_mid (by rfl) _ _ (by rfl) _ _ (by rfl) _ _ Ll Tryz.underlying27 rfl (by kernel_rfl)) (by assumption) ?_
   try simp only [Act.put,la,lz,ls]
   refine tr 2 fun K hK=>?_;go_simp
   (first | (go_at_call 47;refine (uF S r s A c _ (hp.below hB.drew.bw)).mono ?_;rintro e w1 ⟨rfl,hb1⟩;have hB1:=hB.drew.call (by simp) hb1) | (go_at_call 31;refine (jS S x P d _ (hpp.below hB1.bw)).mono ?_;rintro e w2 ⟨rfl,hb2⟩;have hB2:=hB1.call (by simp) hb2) | (go_at_call 28;refine (first_any (fun _=>True) _ _ [M.eH r s,M.bT x] _ (bQ.lit _ _ [M.eH r s,M.bT x] (by simp) _ trivial)).mono ?_;rintro e eY ⟨rfl,rfl⟩))
   refine hK.out _ _ ?J7 (fun hHeld=>?_)
   case J7=>(first | (first | exact fun p q h=>rfl | exact fun p q h=>hB.drew.cells hb1 p q h | exact fun p q h=>(hB1.cells hb2 p q h).trans (hB.drew.cells hb1 p q h) | exact fun p q h=>((hB2.cells ((Below.refl _ _).alloc (Nat.le_refl _) _) p q h).trans (hB1.cells hb2 p q h)).trans (hB.drew.cells hb1 p q h)) | (dsimp only;first | exact fun p q h=>rfl | exact fun p q h=>hB.drew.cells hb1 p q h | exact fun p q h=>(hB1.cells hb2 p q h).trans (hB.drew.cells hb1 p q h) | exact fun p q h=>((hB2.cells ((Below.refl _ _).alloc (Nat.le_refl _) _) p q h).trans (hB1.cells hb2 p q h)).trans (hB.drew.cells hb1 p q h)))
   clear hK K
   try simp only [Act.put,la,lz,ls]
   refine tr 4 fun K hK=>?_;go_simp
   (first | (go_at_call 47;refine (uF S r s A c _ (hp.below hB.drew.bw)).mono ?_;rintro e w1 ⟨rfl,hb1⟩;have hB1:=hB.drew.call (by simp) hb1) | (go_at_call 31;refine (jS S x P d _ (hpp.below hB1.bw)).mono ?_;rintro e w2 ⟨rfl,hb2⟩;have hB2:=hB1.call (by simp) hb2) | (go_at_call 28;refine (first_any (fun _=>True) _ _ [M.eH r s,M.bT x] _ (bQ.lit _ _ [M.eH r s,M.bT x] (by simp) _ trivial)).mono ?_;rintro e eY ⟨rfl,rfl⟩))
   refine hK.out _ _ ?J8 (fun hHeld=>?_)
   case J8=>(first | (first | exact fun p q h=>rfl | exact fun p q h=>hB.drew.cells hb1 p q h | exact fun p q h=>(hB1.cells hb2 p q h).trans (hB.drew.cells hb1 p q h) | exact fun p q h=>((hB2.cells ((Below.refl _ _).alloc (Nat.le_refl _) _) p q h).trans (hB1.cells hb2 p q h)).trans (hB.drew.cells hb1 p q h)) | (dsimp only;first | exact fun p q h=>rfl | exact fun p q h=>hB.drew.cells hb1 p q h | exact fun p q h=>(hB1.cells hb2 p q h).trans (hB.drew.cells hb1 p q h) | exact fun p q h=>((hB2.cells ((Below.refl _ _).alloc (Nat.le_refl _) _) p q h).trans (hB1.cells hb2 p q h)).trans (hB.drew.cells hb1 p q h)))
   clear hK K
   try simp only [Act.put,la,lz,ls]
   refine tr 5 fun K hK=>?_;go_simp;refine hK.out _ _ ?VA (fun hHeld=>?_)
   case VA=>(first | (first | exact fun p q h=>rfl | exact fun p q h=>hB.drew.cells hb1 p q h | exact fun p q h=>(hB1.cells hb2 p q h).trans (hB.drew.cells hb1 p q h) | exact fun p q h=>((hB2.cells ((Below.refl _ _).alloc (Nat.le_refl _) _) p q h).trans (hB1.cells hb2 p q h)).trans (hB.drew.cells hb1 p q h)) | (dsimp only;first | exact fun p q h=>rfl | exact fun p q h=>hB.drew.cells hb1 p q h | exact fun p q h=>(hB1.cells hb2 p q h).trans (hB.drew.cells hb1 p q h) | exact fun p q h=>((hB2.cells ((Below.refl _ _).alloc (Nat.le_refl _) _) p q h).trans (hB1.cells hb2 p q h)).trans (hB.drew.cells hb1 p q h)))
   clear hK K
   try simp only [Act.put,la,lz,ls]
   refine tr 6 fun K hK=>?_;go_simp
   (first | (go_at_call 47;refine (uF S r s A c _ (hp.below hB.drew.bw)).mono ?_;rintro e w1 ⟨rfl,hb1⟩;have hB1:=hB.drew.call (by simp) hb1) | (go_at_call 31;refine (jS S x P d _ (hpp.below hB1.bw)).mono ?_;rintro e w2 ⟨rfl,hb2⟩;have hB2:=hB1.call (by simp) hb2) | (go_at_call 28;refine (first_any (fun _=>True) _ _ [M.eH r s,M.bT x] _ (bQ.lit _ _ [M.eH r s,M.bT x] (by simp) _ trivial)).mono ?_;rintro e eY ⟨rfl,rfl⟩))
   refine hK.out _ _ ?aoz (fun hHeld=>?_)
   case aoz=>(first | (first | exact fun p q h=>rfl | exact fun p q h=>hB.drew.cells hb1 p q h | exact fun p q h=>(hB1.cells hb2 p q h).trans (hB.drew.cells hb1 p q h) | exact fun p q h=>((hB2.cells ((Below.refl _ _).alloc (Nat.le_refl _) _) p q h).trans (hB1.cells hb2 p q h)).trans (hB.drew.cells hb1 p q h)) | (dsimp only;first | exact fun p q h=>rfl | exact fun p q h=>hB.drew.cells hb1 p q h | exact fun p q h=>(hB1.cells hb2 p q h).trans (hB.drew.cells hb1 p q h) | exact fun p q h=>((hB2.cells ((Below.refl _ _).alloc (Nat.le_refl _) _) p q h).trans (hB1.cells hb2 p q h)).trans (hB.drew.cells hb1 p q h)))
   clear hK K
   try simp only [Act.put,la,lz,ls]
   refine tk 7 ?_;refine wpAnyH_done (by kernel_rfl) ?_ _;go_wp2;go_meet;exact ⟨rfl,by first | exact hB2.alloc (by simp) _ | exact (hB2.alloc (by simp) _).drew⟩
  case rest=>
   obtain ⟨rfl,hC⟩:=hcut;clear hB
   by_cases hz:aS [M.eH r s,M.bT x]=0
   · have hz':(aS [M.eH r s,M.bT x] != 0)=false:=by simp [hz]
     obtain ⟨q1,q2⟩:=Ik hz;obtain ⟨hr,hk⟩:=M.Jl q1;obtain ⟨q3,q4,_⟩:=xq q2;have hL:=fun W h h'=>EN S r s x A P c d W h h' q3 (fun p hp=>(q4 p hp).1.1);have HL:=hide hL;have HZ:=hide hz;have HQ2:=hide q2;clear hL hz q1 q2 q3 q4;have hF:=hC.ah rfl
     go_upto_region 4 with (fail)
     go_cut [9] (fun v9 wx=>∃ D,v9=ptr D∧w.heap.size+4≤D∧aX w wx [([.string r.game,.int .i64 r.target,.int .i64 r.bD],23),(aJ s A c,53),(aA ⟨x,P,d⟩,27),(aZ,53)]∧Held wx D (aj r s A c) 99)
     case first=>
      have k0:=hF.cell (j:=0) rfl;have EK:=hF.frozen 0;have k1:=hF.cell (j:=1) rfl;have Lm:=hF.frozen 1;have k2:=hF.cell (j:=2) rfl;have Um:=hF.frozen 2;have hD:=hC.alloc (by simp) (.cells aY.toArray 99);have hG:=Held.new wc aY 99;have hSt:Held wc (w.heap.size+1) [.int .i64 s.turn,.bool s.brk,.bool s.hand,.bool s.push,.bool s.pushed,.int .i64 s.group,.slice A s.au.length c,.int .i64 s.s0,.int .i64 s.s1,.int .i64 s.f0,.int .i64 s.f1,.int .i64 s.run,.int .i64 s.bI,.bool s.over,.int .i64 s.bP] 53:=hC.get 1 rfl;have qB:=hC.size (by simp)
      simp only [List.length_cons,List.length_nil] at qB
      go_wp2_with (first | (refine aB 53 (.tmp 4) rfl ?_;refine ak (hSt) Tryz.underlying53 rfl bg rfl (.tmp 4) rfl rfl ?_) | (refine aO 99 (.tmp 9) (.tmp 25) rfl ?_;refine aF (hG) (aj r (s) A c) rfl ay (bM _ _ _ _) rfl (.tmp 9) (.tmp 25) rfl rfl rfl ?_))
      go_meet;exact ⟨wc.heap.size,rfl,qB,hD.Ig qB _ 0,hG.whole _ rfl⟩
     case rest=>
      clear hC hF;obtain ⟨D,rfl,hD,hC,hG⟩:=hcut
      by_cases hl:M.legal r s x=0
      · have hl':(M.legal r s x != 0)=false:=by simp [hl]
        have hN:=fun W h h'=>next_any S 99999 r s x A P c d W h h' HQ2.out hr hk (by omega) (M.lawful hl);have HN:=hide hN
        have hne:qG r s x=M.dK r (M.next r s x):=by unfold qG;rw [if_neg (by simp [HZ.out]),if_neg (by simp [hl])]
        have HNE:=hide hne;have HLZ:=hide hl;clear hN hl hne
        go_upto_region 7 with (first | (refine aB 99 (.tmp 9) rfl ?_;refine ak (hG) Tryz.underlying99 rfl ay rfl (.tmp 9) rfl rfl ?_) | (refine aB 27 (.tmp 5) rfl ?_;refine ak (hC.get 2 rfl) Tryz.underlying27 rfl bG rfl (.tmp 5) rfl rfl ?_) | (go_at_call 48;refine (HL.out _ (hp.below hC.bw) (hpp.below hC.bw)).mono ?_;rintro e w4 ⟨rfl,hb4⟩;have vg:=hC.call (by simp) hb4;have hG4:=hG.below hb4))
        go_cut [10] (fun v10 wx=>∃ D2 A5 c5,v10=ptr D2∧w.heap.size+4≤D2∧aX w wx [([.string r.game,.int .i64 r.target,.int .i64 r.bD],23),(aJ s A c,53),(aA ⟨x,P,d⟩,27),(aZ,53)]∧Held wx D2 (aj r (M.next r s x) A5 c5) 99∧bQ wx (fun b=>w.heap.size+4≤b) A5 c5 (M.next r s x).au)
        case first=>
         have qB:=vg.size (by simp)
         simp only [List.length_cons,List.length_nil] at qB
         go_wp2_with (first | (refine aB 99 (.tmp 9) rfl ?_;refine ak (hG4) Tryz.underlying99 rfl ay rfl (.tmp 9) rfl rfl ?_) | (refine aB 27 (.tmp 5) rfl ?_;refine ak (vg.get 2 rfl) Tryz.underlying27 rfl bG rfl (.tmp 5) rfl rfl ?_) | (go_at_call 49;refine (HN.out _ (hp.below vg.bw) (hpp.below vg.bw)).mono ?_;rintro e w5 ⟨A5,c5,rfl,hr5,hb5⟩;have rW:=vg.call (by simp) hb5;have hC6:=rW.alloc (by simp) (.cells aY.toArray 99);have hG6:=Held.new w5 aY 99) | (refine aO 99 (.tmp 10) (.tmp 33) rfl ?_;refine aF (hG6) (aj r (M.next r s x) A5 c5) rfl ay (bM _ _ _ _) rfl (.tmp 10) (.tmp 33) rfl rfl rfl ?_))
         go_meet;have hsz5:=rW.size (by simp)
         simp only [List.length_cons,List.length_nil] at hsz5
         exact ⟨w5.heap.size,A5,c5,rfl,hsz5,hC6.Ig hsz5 _ 0,hG6.whole _ rfl,(bQ.sets (S:=fun b=>w.heap.size+4≤b∧b≠w5.heap.size) (fun h=>h.2 rfl) _ 0 _ ((hr5.more (fun b hb h=>⟨by omega,by omega⟩)).alloc _)).more (fun b _ h=>h.1)⟩
        case rest=>
         clear hC hG;obtain ⟨D2,A5,c5,rfl,hD2,hC,hG,hr5⟩:=hcut;have hF:=hC.ah rfl;have qB:=hC.size (by simp)
         simp only [List.length_cons,List.length_nil] at qB
         have hg6:¬ (fun b=>w.heap.size+4≤b) (w.heap.size+3):=fun h=>by
          have h:w.heap.size+4≤w.heap.size+3:=h
          omega
         obtain ⟨ne,hne⟩:∃ q,M.dK r (M.next r s x)=q:=⟨_,rfl⟩;have hnb:=fun W=>rP r (M.next r s x) A5 c5 W;rw [hne] at hnb;have HNB:=hide hnb;have HNX:=hide hne;clear hnb hne;have k0:=hF.cell (j:=0) rfl;have EK:=hF.frozen 0;have k1:=hF.cell (j:=1) rfl;have Lm:=hF.frozen 1;have k2:=hF.cell (j:=2) rfl;have Um:=hF.frozen 2
         by_cases hy:ne=0
         · have hy':(ne != 0)=false:=by simp [hy]
           have hns:uI r s x=M.next r s x∧qG r s x=0:=by have h1:=HNE.out;rw [HNX.out,hy] at h1;exact ⟨by unfold uI;rw [if_pos h1],h1⟩
           have Hy:=hide hns;clear hy hns
           go_wp2_with (first | (refine aB 53 (.tmp 35) rfl ?_;refine oQ (hG8) rfl (.tmp 35) rfl rfl ?_) | (refine aB 53 (.tmp 35) rfl ?_;refine oQ (hG) rfl (.tmp 35) rfl rfl ?_) | (go_at_call 50;refine (HNB.out _).mono ?_;rintro e w8 ⟨rfl,hb8⟩;have hC8:=hC.call (by simp) hb8;have hG8:=hG.below hb8) | (refine aB 53 (.tmp 42) rfl ?_;refine oQ (hG8) rfl (.tmp 42) rfl rfl ?_) | (refine aO 53 (.tmp 6) (.tmp 43) rfl ?_;refine aF (hC8.get 3 rfl) (aJ (M.next r s x) A5 c5) rfl bg (fG _ _ _) rfl (.tmp 6) (.tmp 43) rfl rfl rfl ?_))
           have hE:=hC8.put 3 rfl (aJ (M.next r s x) A5 c5) rfl;refine bodyPost_ret (qh (p:=6) (hE.get 3 rfl) Tryz.underlying53 rfl bg rfl _ rfl) rfl ⟨A5,c5,?_,?_,hE.bw⟩
           · rw [Hy.out.1,Hy.out.2];rfl
           · rw [Hy.out.1];exact (bQ.sets hg6 _ 0 _ (hr5.below hb8)).more (fun b _ h=>by omega)
         · have hy':(ne != 0)=true:=by simp [hy]
           have hns:uI r s x=M.zero∧qG r s x=ne:=by have h1:=HNE.out;rw [HNX.out] at h1;exact ⟨by unfold uI;rw [if_neg (by rw [h1];exact hy)],h1⟩
           have Hy:=hide hns;clear hy hns
           go_wp2_with (first | (refine aB 53 (.tmp 35) rfl ?_;refine oQ (hG) rfl (.tmp 35) rfl rfl ?_) | (go_at_call 50;refine (HNB.out _).mono ?_;rintro e w8 ⟨rfl,hb8⟩;have hC8:=hC.call (by simp) hb8;have hG8:=hG.below hb8) | (refine aO 53 (.tmp 6) (.tmp 40) rfl ?_;refine aF (hC8.get 3 rfl) (aZ) rfl bg (fG M.zero none 0) rfl (.tmp 6) (.tmp 40) rfl rfl rfl ?_))
           have hE:=hC8.put 3 rfl aZ rfl;refine bodyPost_ret (qh (p:=6) (hE.get 3 rfl) Tryz.underlying53 rfl bg rfl _ rfl) rfl ⟨none,0,?_,?_,hE.bw⟩
           · rw [Hy.out.1,Hy.out.2];rfl
           · rw [Hy.out.1];exact Reads.none_ _ _ _
      · have hl':(M.legal r s x != 0)=true:=by simp [hl]
        have hns:uI r s x=M.zero∧qG r s x=18:=by
         have h1:qG r s x=18:=by unfold qG;rw [if_neg (by simp [HZ.out]),if_pos hl]
         exact ⟨by unfold uI;rw [if_neg (by rw [h1];decide)],h1⟩
        have Hy:=hide hns;clear hl hns
        go_wp2_with (first | (refine aB 99 (.tmp 9) rfl ?_;refine ak (hG) Tryz.underlying99 rfl ay rfl (.tmp 9) rfl rfl ?_) | (refine aB 27 (.tmp 5) rfl ?_;refine ak (hC.get 2 rfl) Tryz.underlying27 rfl bG rfl (.tmp 5) rfl rfl ?_) | (go_at_call 48;refine (HL.out _ (hp.below hC.bw) (hpp.below hC.bw)).mono ?_;rintro e w4 ⟨rfl,hb4⟩;have vg:=hC.call (by simp) hb4;have hG4:=hG.below hb4) | (refine aO 53 (.tmp 6) (.tmp 30) rfl ?_;refine aF (vg.get 3 rfl) (aZ) rfl bg (fG M.zero none 0) rfl (.tmp 6) (.tmp 30) rfl rfl rfl ?_))
        have hE:=vg.put 3 rfl aZ rfl;refine bodyPost_ret (qh (p:=6) (hE.get 3 rfl) Tryz.underlying53 rfl bg rfl _ rfl) rfl ⟨none,0,?_,?_,hE.bw⟩
        · rw [Hy.out.1,Hy.out.2];rfl
        · rw [Hy.out.1];exact Reads.none_ _ _ _
   · have hz':(aS [M.eH r s,M.bT x] != 0)=true:=by simp [hz]
     have hne:qG r s x=aS [M.eH r s,M.bT x]:=by unfold qG;rw [if_pos hz]
     have hns:uI r s x=M.zero:=by unfold uI;rw [if_neg (by rw [hne];exact hz)]
     have HNE:=hide hne;have Hy:=hide hns;clear hz hne hns
     go_wp2_with (first | (refine aO 53 (.tmp 6) (.tmp 21) rfl ?_;refine aF (hC.get 3 rfl) (aZ) rfl bg (fG M.zero none 0) rfl (.tmp 6) (.tmp 21) rfl rfl rfl ?_))
     have hE:=hC.put 3 rfl aZ rfl;refine bodyPost_ret (qh (p:=6) (hE.get 3 rfl) Tryz.underlying53 rfl bg rfl _ rfl) rfl ⟨none,0,?_,?_,hE.bw⟩
     · rw [HNE.out,Hy.out];rfl
     · rw [Hy.out];exact Reads.none_ _ _ _
end Go.Proofs.YtcjglfbpjkdgiaaGreatDoor
