/- Parts of a proof. -/
import Derived.Test.YtjbbfmofpjflmaaGreatDoorKq1
import Derived.Test.YtjbbfmofpjflmaaGreatDoorKr23
set_option maxHeartbeats 1600000
set_option maxRecDepth 100000
set_option linter.unusedVariables false
set_option linter.unusedSimpArgs false
namespace Go.Proofs.YtjbbfmofpjflmaaGreatDoor
open Go.RowKit
def lgN (g:Sk.Game) (s:Sk.State) (e:Sk.Entry):Int:=if pq g s e=0 then Sk.legal g s e else 0
theorem abj (S:Nat→Prop) (g:Sk.Game) (s:Sk.State) (e:En) (w:World) (he:iL w S e):Calls Tryz.prog 45 #[lX g,jE s,rU e] w fun e_ w'=>e_= .returned (.tuple #[.int .i64 (lgN g s e.x),.int .i64 (pq g s e.x)])∧Below w.heap.size w w':=by
 go_enter Tryz.func45,Tryz.ntmps45
 go_upto_region 0 with (fail)
 go_cut [3,4,5,6,7] (fun v3 v4 v5 v6 v7 wx=>v3=ptr w.heap.size∧v4=ptr (w.heap.size+1)∧v5=ptr (w.heap.size+2)∧v6= .int .i64 0∧v7= .int .i64 0∧aG w wx [(bK g,23),(aC s,26),(dn e,83)])
 case first=>
  go_wp2;go_meet;exact ⟨rfl,rfl,rfl,rfl,rfl,((((aG.nil w).new (by simp) (bK g) _).new (by simp) (aC s) _).new (by simp) (dn e) _)⟩
 case rest=>
  obtain ⟨rfl,rfl,rfl,rfl,rfl,hB⟩:=hcut
  by_cases hz:pq g s e.x=0
  · have hz':(pq g s e.x != 0)=false:=by simp [hz]
    obtain ⟨ho,hen⟩:=IB hz;have qJ:=hide (show lgN g s e.x=Sk.legal g s e.x by unfold lgN;rw [if_pos hz]);have HZ:=hide hz;clear hz
    go_wp2_with (first | ((with_reducible refine bJ 23 3 ?_);refine dW (hB.au rfl) Tryz.underlying23 dQ ?_) | ((with_reducible refine bJ 26 4 ?_);refine dW (hB.get 1 rfl) Tryz.underlying26 aj ?_) | ((with_reducible refine bJ 83 5 ?_);refine dW (hB.get 2 rfl) Tryz.underlying83 bI ?_) | ((with_reducible refine bJ 23 3 ?_);refine dW (hB1.au rfl) Tryz.underlying23 dQ ?_) | ((with_reducible refine bJ 26 4 ?_);refine dW (hB1.get 1 rfl) Tryz.underlying26 aj ?_) | ((with_reducible refine bJ 83 5 ?_);refine dW (hB1.get 2 rfl) Tryz.underlying83 bI ?_) | (go_at_call 79;refine (Hu S g s e _ (he.below hB.bw)).mono ?_;rintro e1 w1 ⟨rfl,hb1⟩;have hB1:=hB.call (by simp) hb1) | (go_at_call 80;refine (sO S g s e _ ho hen (he.below hB1.bw)).mono ?_;rintro e1 w2 ⟨rfl,hb2⟩;have hB2:=hB1.call (by simp) hb2))
    go_ret2;exact ⟨by rw [qJ.out,HZ.out];rfl,hB2.bw⟩
  · have hz':(pq g s e.x != 0)=true:=by simp [hz]
    have qJ:=hide (show lgN g s e.x=0 by unfold lgN;rw [if_neg hz]);clear hz
    go_wp2_with (first | ((with_reducible refine bJ 23 3 ?_);refine dW (hB.au rfl) Tryz.underlying23 dQ ?_) | ((with_reducible refine bJ 26 4 ?_);refine dW (hB.get 1 rfl) Tryz.underlying26 aj ?_) | ((with_reducible refine bJ 83 5 ?_);refine dW (hB.get 2 rfl) Tryz.underlying83 bI ?_) | (go_at_call 79;refine (Hu S g s e _ (he.below hB.bw)).mono ?_;rintro e1 w1 ⟨rfl,hb1⟩;have hB1:=hB.call (by simp) hb1))
    go_ret2;exact ⟨by rw [qJ.out];rfl,hB1.bw⟩
def nxE (g:Sk.Game) (s:Sk.State) (e:Sk.Entry):Int:=fst [pq g s e,jg (decide (lgN g s e≠0)) 18]
theorem afX {g:Sk.Game} {s:Sk.State} {e:Sk.Entry} (h:nxE g s e=0):pq g s e=0∧Sk.legal g s e=0:=by
 unfold nxE at h
 rw [xB] at h
 by_cases h1:pq g s e=0
 · rw [if_neg (by simpa using h1)] at h
   refine ⟨h1,?_⟩
   by_cases h2:Sk.legal g s e=0
   · exact h2
   · unfold lgN at h;rw [if_pos h1,decide_eq_true h2] at h;cases h
 · rw [if_pos h1] at h;exact absurd h h1
theorem ael {g:Sk.Game} {s:Sk.State} {e:Sk.Entry} (h:Sk.legal g s e=0):Sk.gB g s e=true:=(Sk.mV.1 h).call
def nxS (g:Sk.Game) (s:Sk.State) (e:Sk.Entry):Sk.State:=if nxE g s e=0 then Sk.next g s e else Sk.zero
theorem adN (S:Nat→Prop) (g:Sk.Game) (s:Sk.State) (e:En) (w:World) (he:iL w S e):Calls Tryz.prog 46 #[lX g,jE s,rU e] w fun e_ w'=>e_= .returned (.tuple #[jE (nxS g s e.x),.int .i64 (nxE g s e.x)])∧Below w.heap.size w w':=by
 go_enter Tryz.func46,Tryz.ntmps46
 go_upto_region 0 with (fail)
 go_cut [3,4,5,6,7] (fun v3 v4 v5 v6 v7 wx=>v3=ptr w.heap.size∧v4=ptr (w.heap.size+1)∧v5=ptr (w.heap.size+2)∧v6=ptr (w.heap.size+3)∧v7= .int .i64 0∧aG w wx [(bK g,23),(aC s,26),(dn e,83),(aC Sk.zero,26)])
 case first=>
  go_wp2;go_meet;exact ⟨rfl,rfl,rfl,rfl,rfl,(((((aG.nil w).new (by simp) (bK g) _).new (by simp) (aC s) _).new (by simp) (dn e) _).new (by simp) (aC Sk.zero) _)⟩
 case rest=>
  obtain ⟨rfl,rfl,rfl,rfl,rfl,hB⟩:=hcut
  by_cases hz:nxE g s e.x=0
  · obtain ⟨hck,ajo⟩:=afX hz
    obtain ⟨ho,hen⟩:=IB hck;have hca:=ael ajo
    have hl:(lgN g s e.x != 0)=false:=by unfold lgN;rw [if_pos hck];simp [ajo]
    have hz':(fst [pq g s e.x,jg false 18] != 0)=false:=by rw [xB,if_neg (by simpa using hck)];rfl
    have HE:=hide (show nxS g s e.x=Sk.next g s e.x by unfold nxS;rw [if_pos hz]);have HZ:=hide hz;clear hz hck ajo
    go_wp2_with (first | ((with_reducible refine bJ 23 3 ?_);refine dW (hB3.au rfl) Tryz.underlying23 dQ ?_) | ((with_reducible refine bJ 26 4 ?_);refine dW (hB3.get 1 rfl) Tryz.underlying26 aj ?_) | ((with_reducible refine bJ 83 5 ?_);refine dW (hB3.get 2 rfl) Tryz.underlying83 bI ?_) | ((with_reducible refine bJ 23 3 ?_);refine dW (hB.au rfl) Tryz.underlying23 dQ ?_) | ((with_reducible refine bJ 26 4 ?_);refine dW (hB.get 1 rfl) Tryz.underlying26 aj ?_) | ((with_reducible refine bJ 83 5 ?_);refine dW (hB.get 2 rfl) Tryz.underlying83 bI ?_) | (go_at_call 45;refine (abj S g s e _ (he.below hB.bw)).mono ?_;rintro e1 w1 ⟨rfl,hb1⟩;have hB1:=hB.call (by simp) hb1) | (go_at_call 64;refine (dL _ _ _).mono ?_;rintro e1 qK ⟨rfl,rfl⟩) | (go_at_call 67;refine (iK (fun _=>True) _ _ [pq g s e.x,jg false 18] _ (nI.row _ _ [pq g s e.x,jg false 18] (by simp) _ trivial)).mono ?_;rintro e1 qK ⟨rfl,rfl⟩;have hB3:=hB1.alloc (by simp) (.cells #[.int .i64 (pq g s e.x),.int .i64 (jg false 18)] 34)) | (go_at_call 81;refine (xX S g s e _ ho hen hca (he.below hB3.bw)).mono ?_;rintro e1 w4 ⟨rfl,hb4⟩;have hB4:=hB3.call (by simp) hb4) | ((with_reducible refine isS 26 6 30 ?_);refine fU (hB4.get 3 rfl) (aC (Sk.next g s e.x)) aj (aT _) ?_))
    have jc:=hB4.put 3 rfl (aC (Sk.next g s e.x)) rfl;refine bodyPost_ret (rC (p:=6) (jc.get 3 rfl) Tryz.underlying26 rfl aj rfl _ rfl) rfl ⟨?_,jc.bw⟩;rw [HE.out,HZ.out];rfl
  · obtain ⟨y,hl⟩:∃ y,(lgN g s e.x != 0)=y:=⟨_,rfl⟩
    have hE:nxE g s e.x=fst [pq g s e.x,jg y 18]:=by
     have hd:decide (lgN g s e.x≠0)=y:=by rw [← hl,Bool.eq_iff_iff];simp
     unfold nxE
     rw [hd]
    have hz':(fst [pq g s e.x,jg y 18] != 0)=true:=by rw [← hE];simp [hz]
    have HE:=hide (show nxS g s e.x=Sk.zero by unfold nxS;rw [if_neg hz]);have HZ:=hide hE;clear hz hE
    go_wp2_with (first | ((with_reducible refine bJ 23 3 ?_);refine dW (hB.au rfl) Tryz.underlying23 dQ ?_) | ((with_reducible refine bJ 26 4 ?_);refine dW (hB.get 1 rfl) Tryz.underlying26 aj ?_) | ((with_reducible refine bJ 83 5 ?_);refine dW (hB.get 2 rfl) Tryz.underlying83 bI ?_) | (go_at_call 45;refine (abj S g s e _ (he.below hB.bw)).mono ?_;rintro e1 w1 ⟨rfl,hb1⟩;have hB1:=hB.call (by simp) hb1) | (go_at_call 64;refine (dL _ _ _).mono ?_;rintro e1 qK ⟨rfl,rfl⟩) | (go_at_call 67;refine (iK (fun _=>True) _ _ [pq g s e.x,jg y 18] _ (nI.row _ _ [pq g s e.x,jg y 18] (by simp) _ trivial)).mono ?_;rintro e1 qK ⟨rfl,rfl⟩;have hB3:=hB1.alloc (by simp) (.cells #[.int .i64 (pq g s e.x),.int .i64 (jg y 18)] 34)) | ((with_reducible refine isS 26 6 25 ?_);refine fU (hB3.get 3 rfl) (aC Sk.zero) aj (aT _) ?_))
    have jc:=hB3.put 3 rfl (aC Sk.zero) rfl;refine bodyPost_ret (rC (p:=6) (jc.get 3 rfl) Tryz.underlying26 rfl aj rfl _ rfl) rfl ⟨?_,jc.bw⟩;rw [HE.out,HZ.out];rfl
theorem aa0 {md:Region.Mode} {ops:Array Oper} {Q:Exit→Act→World→Prop} {S:World→Prop} {fuel:Nat} {listed:Array Bool} {a:Act} {w:World} {i:Nat} {o:Oper} {g:Nat} {cs:List Value} {t:TypeId} (ho:ops[i]? =some o) (hw:Region.wanted o (yielded ops a.tmps)=true)
 (h:Held w g cs t) (vs:List Value) (hl:vs.length=cs.length) (hi:(Tryz.prog.info? t).map (·.size)=some cs.length) (h1:∀ v∈vs,v.oneCell'=true) (x y:Operand) (hop:o.op= .store t x y) (hx:a.eval x= .pointer (some ⟨g,0,none⟩)) (hy:a.eval y= .agg vs.toArray)
 (hS:S (w.setCells g 0 vs)) (k:wpAnyH Tryz.prog md ops Q S fuel (listed.setIfInBounds i true) (a.put o.dst undef) (w.setCells g 0 vs)):AllReadyH Tryz.prog md ops Q S fuel listed a w [i]:=
 AllReadyH.cons ho (fun K hK=>by rw [if_pos hw];exact aQ h vs hl hi h1 x y hop hx hy (hK.out _ _ hS (fun _=>k))) AllReadyH.nil
theorem ae2 {P:Program} {md:Region.Mode} {ops:Array Oper} {Q:Exit→Act→World→Prop} {S:World→Prop} {n:Nat} {l:Array Bool} {a:Act} {w:World} (h:∀ f:Nat→Array Bool→Act→World→Prop,f=wpAnyH P md ops Q S→f n l a w):wpAnyH P md ops Q S n l a w:=h _ rfl
end Go.Proofs.YtjbbfmofpjflmaaGreatDoor
