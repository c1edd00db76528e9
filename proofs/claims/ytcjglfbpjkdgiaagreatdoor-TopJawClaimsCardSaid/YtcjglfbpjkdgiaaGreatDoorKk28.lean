/- Parts of a proof. -/
import Derived.Test.YtcjglfbpjkdgiaaGreatDoorKk16
import Derived.Test.YtcjglfbpjkdgiaaGreatDoorKk18
set_option maxHeartbeats 4000000
set_option maxRecDepth 100000
set_option linter.unusedVariables false
set_option linter.unusedSimpArgs false
namespace Go.Proofs.YtcjglfbpjkdgiaaGreatDoor
open Go.RowKit
structure Am (w:World) (Bx D:Nat) (cs:List Value) (v:Value) (n:Nat) (xs:List Value) (v0:Value) (W:World):Prop where
 held:Held W Bx cs 27
 own:W.ownsRow D 71 2 v n xs
 turn:Turn (fun b=>b=Bx∨v0.ownBlock=some b) w W
theorem Dp {W W':World} {D:Nat} {e:TypeId} {size:Nat} {v:Value} {n:Nat} {xs:List Value} (h:W.ownsRow D e size v n xs) (hb:∀ g,v.ownBlock=some g→W'.heap[g]? =W.heap[g]?):W'.ownsRow D e size v n xs:=by
 obtain ⟨h1,h2 | ⟨g,cap,cur,rfl,h3,h4,h5⟩⟩:=h
 · exact ⟨h1,.inl h2⟩
 · exact ⟨h1,.inr ⟨g,cap,cur,rfl,h3,(hb g rfl).trans h4,h5⟩⟩
theorem vw {W:World} {D:Nat} {e:TypeId} {size:Nat} {v:Value} {n:Nat} {xs:List Value} (h:W.ownsRow D e size v n xs) {g:Nat} (hg:v.ownBlock=some g):D≤g∧g<W.heap.size:=by
 obtain ⟨h1,⟨rfl,_⟩ | ⟨g',cap,cur,rfl,h3,h4,h5⟩⟩:=h
 · cases hg
 · cases hg;exact ⟨h3,(Array.getElem?_eq_some_iff.1 h4).1⟩
theorem Am.start {w wc:World} {Bx D:Nat} {cs:List Value} {v:Value} {n:Nat} {xs:List Value} (hx:Held w Bx cs 27) (ho:w.ownsRow D 71 2 v n xs) (hb:Below w.heap.size w wc):Am w Bx D cs v n xs v wc:=
 ⟨hx.below hb,Dp ho (fun g hg=>hb.block g (vw ho hg).2),Turn.of_below hb⟩
theorem KO {X:Nat→Prop} {w W:World} (h:Turn X w W) {g:Nat} (hg:X g) (o:Nat) (u:Value):Turn X w (W.setCell ⟨g,o,none⟩ u):=
 ⟨h.os,h.tape,h.output,by have:=h.size;simpa [World.setCell] using this,fun b hb hn=>(Below.heap_setCell W ⟨g,o,none⟩ u b (fun e=>hn (e ▸ hg))).trans (h.block b hb hn)⟩
theorem Am.set {w W:World} {Bx D:Nat} {cs:List Value} {v v0:Value} {n:Nat} {xs:List Value} (h:Am w Bx D cs v n xs v0 W) (Ip:Bx<D) (o:Nat) (u:Value):Am w Bx D (cs.set o u) v n xs v0 (W.setCell ⟨Bx,o,none⟩ u):=
 ⟨h.held.set o u,Dp h.own (fun g hg=>Below.heap_setCell W ⟨Bx,o,none⟩ u g (fun e=>by have:=(vw h.own hg).1;have e:g=Bx:=e;omega)),KO h.turn (.inl rfl) o u⟩
theorem Am.append {w W w4:World} {Bx D g1 k cap k' j:Nat} {cs:List Value} {v0:Value} {n:Nat} {xs ys:List Value} {o:Obj} (h:Am w Bx D cs v0 n xs v0 W) (Ip:Bx<D) (hDW:D≤W.heap.size) (hBW:Bx<W.heap.size)
 (hgrow:(W.alloc o).grownBy w4 v0.ownBlock) (hown4:w4.ownsRow D 71 2 (.slice (some ⟨g1,0,none⟩) k cap) k' ys) (hne:Bx≠g1):
 Held w4 Bx cs 27∧Am w Bx D (cs.set j (.slice (some ⟨g1,0,none⟩) k cap)) (.slice (some ⟨g1,0,none⟩) k cap) k' ys v0 (w4.setCell ⟨Bx,j,none⟩ (.slice (some ⟨g1,0,none⟩) k cap)):=by
 have uw:Held w4 Bx cs 27:=(hgrow.block _ (by simp;omega) (fun e=>by have:=(vw h.own e.symm).1;omega)).trans (h.held.alloc o)
 have hT4:Turn (fun b=>b=Bx∨v0.ownBlock=some b) w w4:=
  h.turn.trans ((Turn.of_below ((Below.refl W.heap.size W).alloc (Nat.le_refl _) o)).trans ((show Turn (fun b=>b=Bx∨v0.ownBlock=some b) _ w4 from ⟨hgrow.os,hgrow.tape,hgrow.output,hgrow.size,fun b hb hn=>hgrow.block b hb (fun e=>hn (.inr e.symm))⟩)) (fun b h=> .inl h)) (fun b h=> .inl h)
 exact ⟨uw,uw.set j _,Dp hown4 (fun g hg=>by cases hg;exact Below.heap_setCell w4 ⟨Bx,j,none⟩ _ g1 (fun e=>hne e.symm)),KO hT4 (.inl rfl) j _⟩
theorem Oc (x:M.aV) (p:Nat) (l:List UInt8) (a1 a2 d1 d2 h:Int) (ha:∀ q,M.dQ 99 l=some q→a1=q.1∧a2=q.2) (hd:∀ q,M.dQ 112 l=some q→d1=q.1∧d2=q.2) (hh:∀ u,M.num (jD 102 l)=some u→h=u):
 M.read x p l=if decide (p≤2) && (M.dQ 99 l).isSome && decide (0<a1) && decide (0<a2) then some ({x with aT:=a1,aP:=a2 },3)
  else if decide (p≤3) && decide (l.head? =some 102) && (M.num (jD 102 l)).isSome && decide (0<h) then some ({x with first:=h },4)
  else if decide (p≤4) && decide (l=[43]) then some ({x with cO:=true },5)
  else if (M.dQ 112 l).isSome then some ({x with aC:=x.aC++[⟨d1,d2⟩] },5) else none:=by
 unfold M.read
 have hhit:M.rE l=if l.head? =some 102 then M.num (jD 102 l) else none:=by
  cases l with
  | nil=>rfl
  | cons c l=>
    rw [M.rE]
    unfold jD
    rw [KN]
    by_cases hc:c=102 <;> simp [hc]
 rw [hhit]
 have e1:(if p≤2 then M.dQ 99 l else none).filter (fun p=>decide (0<p.1∧0<p.2))=if decide (p≤2) && (M.dQ 99 l).isSome && decide (0<a1) && decide (0<a2) then some (a1,a2) else none:=by
  by_cases h2:p≤2
  · cases hq:M.dQ 99 l with
    | none=>simp [h2]
    | some q=>
      obtain ⟨rfl,rfl⟩:=ha q hq
      by_cases h3:0<q.1 <;> by_cases h4:0<q.2 <;> simp [h2,h3,h4] <;> omega
  · simp [h2]
 have e2:(if p≤3 then (if l.head? =some 102 then M.num (jD 102 l) else none) else none).filter (fun h=>decide (0<h))=if decide (p≤3) && decide (l.head? =some 102) && (M.num (jD 102 l)).isSome && decide (0<h) then some h else none:=by
  by_cases h2:p≤3
  · by_cases h3:l.head? =some 102
    · cases hq:M.num (jD 102 l) with
      | none=>simp [h2,h3]
      | some q=>
        obtain rfl:=hh q hq
        by_cases h4:0<h <;> simp [h2,h3,h4] <;> omega
    · simp [h2,h3]
  · simp [h2]
 rw [e1,e2]
 cases decide (p≤2) && (M.dQ 99 l).isSome && decide (0<a1) && decide (0<a2) with
 | true=>rfl
 | false=>
   simp only [Bool.false_eq_true,if_false]
   cases decide (p≤3) && decide (l.head? =some 102) && (M.num (jD 102 l)).isSome && decide (0<h) with
   | true=>rfl
   | false=>
     simp only [Bool.false_eq_true,if_false]
     by_cases h4:p≤4∧l=[43]
     · simp [h4]
     · rw [if_neg h4,if_neg (by simpa using h4)]
       cases hq:M.dQ 112 l with
       | none=>rfl
       | some q=>
         obtain ⟨rfl,rfl⟩:=hd q hq
         rfl
theorem WH (x:M.aV) (p:Nat) (l:List UInt8) (Bx D:Nat) (A:Option Addr) (c:Nat) (w:World) (hg:Glob w) (hl:l.length≤4096) (hne:l≠[]) (hp:p≤5) (hx:Held w Bx (aA ⟨x,A,c⟩) 27)
 (hown:w.ownsRow D 71 2 (.slice A x.aC.length c) x.aC.length (bZ x.aC)) (hD:D≤w.heap.size) (Ip:Bx<D) (hpl:x.aC.length≤4096):
 Calls Tryz.prog 46 #[ptr Bx,.string ⟨l.toArray⟩,.int .i64 (p:Int)] w fun e w'=>∃ A' c',e= .returned (.int .i64 (fQ x p l).1)∧Am w Bx D (aA ⟨(fQ x p l).2,A',c'⟩) (.slice A' (fQ x p l).2.aC.length c') (fQ x p l).2.aC.length (bZ (fQ x p l).2.aC) (.slice A x.aC.length c) w':=by
 have hsz:(ByteArray.mk l.toArray).size=l.length:=iM l;obtain ⟨c0,lt,rfl⟩:=List.exists_cons_of_ne_nil hne;have hB1:=fun W h=>both_any 99 (c0::lt) W h hl;have hB2:=fun W h=>both_any 112 (c0::lt) W h hl;have hT:=fun W=>Tryz.strings_TrimPrefix ⟨(c0::lt).toArray⟩ ⟨#[102]⟩ W;have hDg:=fun W h=>wF (jD 102 (c0::lt)) W h (by have:=Ku 102 (c0::lt);omega);obtain ⟨l,hll⟩:∃ l,c0::lt=l:=⟨_,rfl⟩
 have hc0:l.head? =some c0:=by rw [← hll];rfl
 rw [hll] at hB1 hB2 hT hDg hl hsz ⊢;obtain ⟨B1,eB1⟩:∃ b,(M.dQ 99 l).isSome=b:=⟨_,rfl⟩;obtain ⟨B2,eB2⟩:∃ b,(M.dQ 112 l).isSome=b:=⟨_,rfl⟩;obtain ⟨B3,eB3⟩:∃ b,(M.num (jD 102 l)).isSome=b:=⟨_,rfl⟩;have hRT:=fun a1 a2 d1 d2 h=>Oc x p l a1 a2 d1 d2 h;rw [eB1] at hB1 hRT;rw [eB2] at hB2 hRT;rw [eB3] at hDg hRT;have HRT:=hide hRT;clear hRT eB1 eB2 eB3;have HB1:=hide hB1;have HB2:=hide hB2;have HT:=hide hT;have HD:=hide hDg;have HL:=hide hll;clear hB1 hB2 hT hDg hll hne
 go_enter Tryz.func46,Tryz.ntmps46
 go_upto_region 1 with (fail)
 go_cut [7,8] from 17 to 23 (fun _ v8 wx=>v8= .bool (M.jy l)∧Below w.heap.size w wx)
 case first=>
  rcases hk:M.isKind ⟨l.toArray⟩ with _ | _
  · have hl0:=Gw hk true w w.heap.size rfl
    go_wp2_with (go_at_call 63;refine (ql _).mono ?_;rintro e w1 ⟨rfl,rfl⟩)
    go_meet;refine ⟨by unfold M.jy;rw [hk],?_⟩;exact ((Below.refl _ _).alloc (Nat.le_refl _) _).alloc (by simp) _
  · have hl0:=Na hk true w w.heap.size rfl
    go_wp2_with (go_at_call 63;refine (ql _).mono ?_;rintro e w1 ⟨rfl,rfl⟩)
    go_meet;refine ⟨by unfold M.jy;rw [hk],?_⟩;exact ((Below.refl _ _).alloc (Nat.le_refl _) _).alloc (by simp) _
 case rest=>
  obtain ⟨rfl,hb0⟩:=hcut;have g0:=hg.below hb0
  go_upto_region 4 with (first | (go_at_call 87;refine (HB1.out _ g0).mono ?_;rintro e w1 ⟨a1,a2,rfl,ha,hb1⟩;have X5:=hb0.trans (hb1.mono hb0.size);have g1:=hg.below X5;clear HB1) | (go_at_call 87;refine (HB2.out _ g1).mono ?_;rintro e w2 ⟨d1,d2,rfl,hd,hb2⟩;have X6:=X5.trans (hb2.mono X5.size);have g2:=hg.below X6;clear HB2))
  go_cut [15,16] from 17 to 41 (fun v15 v16 wx=>∃ h:Int,v15= .int .i64 h∧v16= .bool B3∧(∀ u,M.num (jD 102 l)=some u→h=u)∧Below w.heap.size w wx)
  case first=>
   go_wp2_with (first | (go_at_call 89;refine (HT.out _).mono ?_;rintro e w3 ⟨rfl,rfl⟩) | (go_at_call 88;refine (HD.out _ g2).mono ?_;rintro e w3 ⟨v,rfl,hv,hb3⟩;have arT:=X6.trans (hb3.mono X6.size)))
   go_meet;exact ⟨v,rfl,rfl,hv,arT⟩
  case rest=>
   obtain ⟨h,rfl,rfl,hh,hb⟩:=hcut;have st:=Am.start hx hown hb;have RT:=hide (HRT.out a1 a2 d1 d2 h ha hd hh);have hwD:D≤wc.heap.size:=Nat.le_trans hD hb.size;have HA:=hide ha;have HDD:=hide hd;have HHH:=hide hh;clear ha hd hh hb1 hb2 X5 X6 g0 g1 g2 hb0
   have g0:0<(ByteArray.mk l.toArray).size:=by rw [hsz, ← HL.out];simp
   rcases (by omega:p=0∨p=1∨2≤p) with rfl | rfl | hp2
   · have k0:=st.held.cell (j:=0) rfl
     have f0:=st.held.frozen 0
     by_cases h97:l=[97]
     · subst h97
       have hr:fQ x 0 [97]=(1,{x with aG:=0 }):=rfl;have e2:(((ByteArray.mk ([97]:List UInt8).toArray)[0]'g0).toNat:Int)=97:=rfl;have HR:=hide hr;clear hr;go_wp2;go_ret
       first | exact ⟨by rw [HR.out];rfl,A,c,by rw [HR.out];exact st.set Ip 0 (.int .i64 0)⟩ | exact ⟨A,c,by rw [HR.out];rfl,by rw [HR.out];exact st.set Ip 0 (.int .i64 0)⟩
     · have e1:(l == [97])=false:=by simpa using h97
       by_cases h98:l=[98]
       · subst h98
         have hr:fQ x 0 [98]=(1,{x with aG:=1 }):=rfl;have e2:(((ByteArray.mk ([98]:List UInt8).toArray)[0]'g0).toNat:Int)=98:=rfl;have HR:=hide hr;clear hr;go_wp2;go_ret
         first | exact ⟨by rw [HR.out];rfl,A,c,by rw [HR.out];exact st.set Ip 0 (.int .i64 1)⟩ | exact ⟨A,c,by rw [HR.out];rfl,by rw [HR.out];exact st.set Ip 0 (.int .i64 1)⟩
       · have e3:(l == [98])=false:=by simpa using h98
         have hr:fQ x 0 l=(-1,x):=by unfold fQ;rw [if_pos rfl,if_neg h97,if_neg h98]
         have HR:=hide hr;clear hr h97 h98;go_wp2;go_ret
         first | exact ⟨by rw [HR.out];rfl,A,c,by rw [HR.out];exact st⟩ | exact ⟨A,c,by rw [HR.out];rfl,by rw [HR.out];exact st⟩
   · have k1:=st.held.cell (j:=1) rfl
     have f1:=st.held.frozen 1
     rcases hk:M.jy l with _ | _
     · have hr:fQ x 1 l=(-1,x):=by unfold fQ;rw [if_neg (by decide),if_pos rfl,hk];rfl
       have HR:=hide hr;clear hr;go_wp2;go_ret
       first | exact ⟨by rw [HR.out];rfl,A,c,by rw [HR.out];exact st⟩ | exact ⟨A,c,by rw [HR.out];rfl,by rw [HR.out];exact st⟩
     · have hr:fQ x 1 l=(2,{x with kind:=⟨l.toArray⟩ }):=by unfold fQ;rw [if_neg (by decide),if_pos rfl,hk];rfl
       have HR:=hide hr;clear hr;go_wp2;go_ret
       first | exact ⟨by rw [HR.out];rfl,A,c,by rw [HR.out];exact st.set Ip 1 (.string ⟨l.toArray⟩)⟩ | exact ⟨A,c,by rw [HR.out];rfl,by rw [HR.out];exact st.set Ip 1 (.string ⟨l.toArray⟩)⟩
   · have hrs:fQ x p l=match M.read x p l with | some q=>((q.2:Int),q.1) | none=>(-1,x):=by unfold fQ;rw [if_neg (by omega),if_neg (by omega)];rfl
     rw [RT.out,hc0] at hrs;obtain ⟨T1,hT1⟩:∃ b,(decide (p≤2) && B1 && decide (0<a1) && decide (0<a2))=b:=⟨_,rfl⟩;obtain ⟨T2,hT2⟩:∃ b,(decide (p≤3) && decide (some c0=some (102:UInt8)) && B3 && decide (0<h))=b:=⟨_,rfl⟩;obtain ⟨T3,hT3⟩:∃ b,(decide (p≤4) && decide (l=[43]))=b:=⟨_,rfl⟩;rw [hT1,hT2,hT3] at hrs;have yL:=hide hrs;have HT1:=hide hT1;have HT2:=hide hT2;have HT3:=hide hT3
     have n0:((p:Int) == 0)=false:=by rw [beq_eq_false_iff_ne];omega
     have n1:((p:Int) == 1)=false:=by rw [beq_eq_false_iff_ne];omega
     clear hrs hT1 hT2 hT3
     go_upto_region 15 with (fail)
     go_cut [66] from 67 to 80 (fun v wy=>v= .bool T1∧wc=wy)
     case first=>
      by_cases z1:p≤2 <;> by_cases z2:0<a1 <;> by_cases z3:0<a2 <;> cases B1
      all_goals go_wp2
      all_goals go_meet
      all_goals exact ⟨by rw [← HT1.out];simp [z1,z2,z3] <;> omega,rfl⟩
     case rest=>
      obtain ⟨rfl,rfl⟩:=hcut
      cases T1
      · go_upto_region 18 with (fail)
        go_cut [88] from 89 to 103 (fun v wy=>v= .bool T2∧wc=wy)
        case first=>
         have e0:((((ByteArray.mk l.toArray)[0]'g0).toNat:Int) == 102)=decide (c0=102):=by
          have hh0:=HL.out;subst hh0;exact O8 (a:=c0) (b:=102)
         by_cases z1:p≤3 <;> by_cases z2:c0=102 <;> by_cases z3:0<h <;> cases B3
         all_goals
          first | rw [decide_eq_true z2] at e0 | rw [decide_eq_false z2] at e0
          have HZ:=hide z2;clear z2;go_wp2;go_meet;exact ⟨by rw [← HT2.out];simp [z1,HZ.out,z3] <;> omega,rfl⟩
        case rest=>
         obtain ⟨rfl,rfl⟩:=hcut
         cases T2
         · go_upto_region 21 with (fail)
           go_cut [107] from 108 to 114 (fun v wy=>v= .bool T3∧wc=wy)
           case first=>
            by_cases z1:p≤4 <;> by_cases z2:l=[43]
            all_goals
             first | (have e1:(l == [43])=true:=by simpa using z2) | (have e1:(l == [43])=false:=by simpa using z2)
             have HZ:=hide z2;clear z2;go_wp2;go_meet;exact ⟨by rw [← HT3.out];simp [z1,HZ.out] <;> omega,rfl⟩
           case rest=>
            obtain ⟨rfl,rfl⟩:=hcut
            cases T3
            · cases B2
              · have hr:fQ x p l=(-1,x):=yL.out
                have HR:=hide hr;clear hr;go_wp2;go_ret
                first | exact ⟨by rw [HR.out];rfl,A,c,by rw [HR.out];exact st⟩ | exact ⟨A,c,by rw [HR.out];rfl,by rw [HR.out];exact st⟩
              · have hr:fQ x p l=(5,{x with aC:=x.aC++[⟨d1,d2⟩] }):=yL.out
                have HR:=hide hr;clear hr;obtain ⟨i0,hi0,hz0,hz1,hz2⟩:=info_parts Ju;have k6:=st.held.cell (j:=6) rfl
                go_wp2_with (at_builtin;refine wpList_append_lies _ rfl _ _ _ rfl D 71 i0 (.agg #[.int .i64 0,.int .i64 0]) 2 16 Tryz.underlying25 hi0 hz0 hz1 hz2 rfl (by omega) _ _ _ rfl (st.own.alloc _) ⟨wc.heap.size,0,none⟩ 1 1 [.int .i64 d1,.int .i64 d2] rfl rfl (dJ _ _ _ _ rfl) ?c1 (by omega) ?c2 ?c3 ?c4 (wc.heap.size+1) (by simp) ?_)
                case c1=>first | (simp [Value.oneCell'];done) | decide
                case c2=>simp only [maxLen];omega
                case c3=>omega
                case c4=>first | omega | (simp;omega)
                intro g1 cap w4 hown4 hgrow hat hlt4
                have hne:Bx≠g1:=by
                 rcases hat with h1 | h1
                 · have:=(vw st.own h1).1;omega
                 · omega
                obtain ⟨uw,hS⟩:=st.append (j:=6) Ip hwD (by omega) hgrow hown4 hne;have c6:=uw.cell (j:=6) rfl;have f6:=uw.frozen 6;have HS:=hide hS;clear hS hgrow hown4 k6;go_wp2;go_ret
                have e1:(x.aC++[(⟨d1,d2⟩:M.kL)]).length=x.aC.length+1:=by simp
                have e2:bZ (x.aC++[(⟨d1,d2⟩:M.kL)])=bZ x.aC++[.int .i64 d1,.int .i64 d2]:=pJ _ _
                have hfin:Am w Bx D (aA ⟨{x with aC:=x.aC++[⟨d1,d2⟩] },some ⟨g1,0,none⟩,cap⟩) (.slice (some ⟨g1,0,none⟩) (x.aC++[(⟨d1,d2⟩:M.kL)]).length cap) (x.aC++[(⟨d1,d2⟩:M.kL)]).length (bZ (x.aC++[(⟨d1,d2⟩:M.kL)])) (.slice A x.aC.length c) (w4.setCell ⟨Bx,6,none⟩ (.slice (some ⟨g1,0,none⟩) (x.aC.length+1) cap)):=by
                 unfold aA
                 simp only [e1,e2]
                 exact HS.out
                first | exact ⟨by rw [HR.out];rfl,some ⟨g1,0,none⟩,cap,by rw [HR.out];exact hfin⟩ | exact ⟨some ⟨g1,0,none⟩,cap,by rw [HR.out];rfl,by rw [HR.out];exact hfin⟩
            · have hr:fQ x p l=(5,{x with cO:=true }):=yL.out
              have HR:=hide hr;clear hr;have k5:=st.held.cell (j:=5) rfl;have f5:=st.held.frozen 5;go_wp2;go_ret
              first | exact ⟨by rw [HR.out];rfl,A,c,by rw [HR.out];exact st.set Ip 5 (.bool true)⟩ | exact ⟨A,c,by rw [HR.out];rfl,by rw [HR.out];exact st.set Ip 5 (.bool true)⟩
         · have hr:fQ x p l=(4,{x with first:=h }):=yL.out
           have HR:=hide hr;clear hr;have k4:=st.held.cell (j:=4) rfl;have f4:=st.held.frozen 4;go_wp2;go_ret
           first | exact ⟨by rw [HR.out];rfl,A,c,by rw [HR.out];exact st.set Ip 4 (.int .i64 h)⟩ | exact ⟨A,c,by rw [HR.out];rfl,by rw [HR.out];exact st.set Ip 4 (.int .i64 h)⟩
      · have hr:fQ x p l=(3,{x with aT:=a1,aP:=a2 }):=yL.out
        have HR:=hide hr;clear hr;have k2:=st.held.cell (j:=2) rfl;have f2:=st.held.frozen 2;have k3:=st.held.cell (j:=3) rfl;have f3:=st.held.frozen 3;go_wp2;go_ret
        first | exact ⟨by rw [HR.out];rfl,A,c,by rw [HR.out];exact (st.set Ip 2 (.int .i64 a1)).set Ip 3 (.int .i64 a2)⟩ | exact ⟨A,c,by rw [HR.out];rfl,by rw [HR.out];exact (st.set Ip 2 (.int .i64 a1)).set Ip 3 (.int .i64 a2)⟩
end Go.Proofs.YtcjglfbpjkdgiaaGreatDoor
