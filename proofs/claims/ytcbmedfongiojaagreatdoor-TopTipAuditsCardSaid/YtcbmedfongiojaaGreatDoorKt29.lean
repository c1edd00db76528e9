/- Parts of a proof. -/
import Derived.Test.YtcbmedfongiojaaGreatDoorKt19
import Derived.Test.YtcbmedfongiojaaGreatDoorKt28
set_option maxHeartbeats 8000000
set_option maxRecDepth 100000
set_option linter.unusedVariables false
set_option linter.unusedSimpArgs false
namespace Go.Proofs.YtcbmedfongiojaaGreatDoor
open Go.RowKit
def cv (k:Nat):Nm.Vec:=ptV (corners.getD k ⟨0,0⟩)
def zD (k:Nat):Array Value:= #[.int .i64 k,JU (cv k) (cv ((k+1) % 4))]
theorem Ob (k:Nat) (hk:k<4):ptV (corners[k]'hk)=cv k:=by
 unfold cv
 rw [List.getD_eq_getElem?_getD,List.getElem?_eq_getElem (show k<corners.length from hk)]
 rfl
theorem TI (S:Nat→Prop) (A B:Option Addr) (c d k:Nat) (w:World) (hk:k<4) (h:oG w S A c corners):
 Calls Tryz.prog 149 #[rZ A c B d,.int .i64 k] w fun e w'=>e= .returned (JU (cv k) (cv ((k+1) % 4)))∧Below w.heap.size w w':=by
 have:=Oe S A B c d k ((k+1) % 4) w hk (Nat.mod_lt _ (by omega)) rfl h
 rwa [Ob,Ob] at this
theorem MJ (S:Nat→Prop) (A B:Option Addr) (c d:Nat) (K:Nat→Prop) (Bt n:Nat) (w:World) (hn:1≤n)
 (hKw:∀ b,K b→b<w.heap.size) (hBt:Held w Bt (aZ A c B d) 72) (hKt:K Bt) (hL:oG w K A c corners):
 Du (jO none) n Tryz.prog 148 #[ptr Bt] zD K (fun _ _ pre x _=>x=pre.length∧x<4) (fun xs=>xs=List.range 4) (fun _=>True) 4 w:=by
 intro l0 J Jx W hW hJ hJx hY h0;refine kG ?_;have hBW:=hBt.below hW;have hLW:=Reads.below hL hW;have hKW:∀ b,K b→b<W.heap.size:=fun b hb=>Nat.lt_of_lt_of_le (hKw b hb) hW.size;have HY:=hide hY;clear hY hBt hL;have wE:=(hBW).cell (j:=0) rfl;have lX:=(hBW).frozen 0;have ka1:=(hBW).cell (j:=1) rfl;have lY:=(hBW).frozen 1;have Pq:=(hBW).cell (j:=2) rfl;have zV:=(hBW).frozen 2;have Pv:=(hBW).cell (j:=3) rfl;have zW:=(hBW).frozen 3
 go_enter Tryz.func148,Tryz.ntmps148
 go_wp2
 go_loopw [7] (fun i wr=>∃ k:Nat,k≤4∧i= .int .i64 k∧J (fun _=>False) (fun _=>False) (List.range k) wr∧W.heap.size≤wr.heap.size∧∀ b,K b→wr.heap[b]? =W.heap[b]?) (fun i _=>4 - (intOf i).toNat)
 case atStart=>exact ⟨0,by omega,rfl,h0,Nat.le_refl _,fun _ _=>rfl⟩
 case round=>
  obtain ⟨k,hk,rfl,hj,hsz,hkp⟩:=hrel
  by_cases hlt:k<4
  · have hBr:Held wr Bt (aZ A c B d) 72:=(hkp Bt hKt).trans hBW
    have hLr:oG wr K A c corners:=Reads.keep hLW hsz (fun b o hb _=>World.cell?_of_block (hkp b hb));have HE:=TI K A B c d k wr hlt hLr;have hea:zD k= #[.int .i64 k,JU (cv k) (cv ((k+1) % 4))]:=rfl;obtain ⟨v1,hv1⟩:∃ v,cv k=v:=⟨_,rfl⟩;obtain ⟨v2,hv2⟩:∃ v,cv ((k+1) % 4)=v:=⟨_,rfl⟩;rw [hv1,hv2] at HE hea;clear hv1 hv2;have HE:=hide HE;have HA:=hide hea;clear hea wE lX ka1 lY Pq zV Pv zW;have Zy:decide ((k:Int)<4)=true:=decide_eq_true (by omega)
    go_upto_region 3 with (fail)
    go_cut [16] from 9 to 16 (fun v wx=>(v= .bool false∧J (fun _=>False) (fun _=>False) (List.range (k+1)) wx∧wr.heap.size≤wx.heap.size∧∀ b,K b→wx.heap[b]? =W.heap[b]?)∨(v= .bool true∧Jx (fun _=>False) (fun _=>False) (List.range (k+1)) wx))
    case first=>
     refine (wpIn_wide (n:=n)).1 ?_;have aks:(jO none).round=none:=rfl;have ajh:(jO none).depth=none:=rfl;have ajv:∀ f,(jO none).fn f=True:=fun _=>rfl;refine wpIn_region_lit ?_
     gi_wp2_with (first | (refine UL hBr Tryz.underlying72 rfl iP rfl (.tmp 1) rfl rfl ?_) | (gi_at_call 149;refine (kG HE.out).mono ?_;rintro e w2 ⟨rfl,hb2⟩;obtain ⟨fn',afY,assign',body',hy,hR⟩:=HY.out (fun _=>False) (fun _=>False) (List.range k) k w2 (hJ _ _ _ _ _ _ _ hj (Turn.of_below hb2) (fun b h=>h.elim) (fun b h=>h.elim)) (fun b h=>h.elim (fun h=>h.elim) (fun h=>h.elim)) (by rw [List.length_range];exact hlt) ⟨List.length_range.symm,hlt⟩;rw [HA.out] at hy))
     refine hR.mono ?_
     rintro e4 W4 (⟨rfl,WW,hk4⟩ | ⟨rfl,DT⟩)
     · gi_wp2
       go_meet;exact .inl ⟨rfl,by rw [List.range_succ];exact WW,Nat.le_trans hb2.size hk4.size,fun b hb=>(hk4.keep b hb).trans ((hb2.block b (Nat.lt_of_lt_of_le (hKW b hb) hsz)).trans (hkp b hb))⟩
     · gi_wp2
       go_meet;exact .inr ⟨rfl,by rw [List.range_succ];exact DT⟩
    case rest=>
     rcases hcut with ⟨rfl,WW,hs4,hk4⟩ | ⟨rfl,DT⟩
     · go_wp2
       go_roundw
       case rel=>exact ⟨k+1,by omega,by go_num,WW,Nat.le_trans hsz hs4,hk4⟩
       case measure=>simp [intOf];omega
     · go_wp2
       refine bodyPost_ret (results_none rfl _ _ _) rfl ?_
       first | exact ⟨⟨_,rfl⟩,.inr ⟨_,_,_,trivial,DT⟩⟩ | exact ⟨⟨_,rfl⟩,.inr ⟨_,_,_,DT⟩⟩
  · obtain rfl:k=4:=by omega
    go_wp2
    go_end0
    have hj4:J (fun _=>False) (fun _=>False) [0,1,2,3] wr:=hj;exact ⟨⟨_,rfl⟩,.inl ⟨_,_,hj4⟩⟩
def Jw (p:Nm.Vec) (k:Nat):Int:=Nm.nC (Nm.cross (Nm.jT (cv ((k+1) % 4)) (cv k)) (Nm.jT p (cv k))).n
def yR (p:Nm.Vec):Nat→Int
 | 0=>1
 | k+1=>min (yR p k) (Jw p k)
def xk (p:Nm.Vec) (k:Nat):Bool:=Nm.JJ (cv k) && Nm.JJ (cv ((k+1) % 4)) && Nm.JJ p && Nm.cok (Nm.jT (cv ((k+1) % 4)) (cv k)) (Nm.jT p (cv k))
def UZ (p:Nm.Vec):Bool:=xk p 0 && xk p 1 && xk p 2 && xk p 3
theorem U1 {p:Nm.Vec} (h:UZ p=true) {k:Nat} (hk:k<4):xk p k=true:=by
 unfold UZ at h
 simp only [Bool.and_eq_true] at h
 obtain ⟨⟨⟨h0,h1⟩,h2⟩,h3⟩:=h
 match k,hk with
 | 0,_=>exact h0
 | 1,_=>exact h1
 | 2,_=>exact h2
 | 3,_=>exact h3
theorem RN (A B:Option Addr) (c d:Nat) (w:World):
 Calls Tryz.prog 80 #[rZ A c B d] w fun e w'=>e= .returned (.func (.func 148) #[] #[ptr w.heap.size])∧aC w w' [(aZ A c B d,72)]:=by
 go_enter Tryz.func80,Tryz.ntmps80
 go_wp2;go_ret;exact ⟨rfl,(aC.nil w).new (by simp) (aZ A c B d) _⟩
def qP (A:Option Addr) (c:Nat) (B:Option Addr) (d:Nat) (p:Nm.Vec) (k:Nat):List (List Value × TypeId):=[(aZ A c B d,72),(aN p,111),([.int .i64 (yR p k)],3)]
structure Tn (A:Option Addr) (c:Nat) (B:Option Addr) (d:Nat) (p:Nm.Vec) (w:World) (D:Nat) (X Y:Nat→Prop) (pre:List Nat) (W:World):Prop where
 b:aC w W (qP A c B d p pre.length)
 sz:D≤W.heap.size
 sep:∀ b,X b∨Y b→D≤b
theorem aC.turn {w W W':World} {L:List (List Value × TypeId)} {X:Nat→Prop} (h:aC w W L) (ht:Turn X W W') (hX:∀ b,X b→w.heap.size+L.length≤b) (hs:w.heap.size≤W.heap.size):aC w W' L:=
 ⟨fun i e he=>(ht.block _ (h.at_ i e he).lt (fun hx=>by have:=hX _ hx;have:=(List.getElem?_eq_some_iff.1 he).1;omega)).trans (h.at_ i e he),H8 h.bw ht (fun b hb=>by have:=hX b hb;omega) hs⟩
theorem aC.putObj {w W:World} {L:List (List Value × TypeId)} {l:Nat} {o:Obj} (h:aC w W L) (hw:w.heap.size≤l) (hl:W.heap[l]? =some o) (ho:o.isCells=false) (o':Obj):aC w (W.putObj l o') L:=
 ⟨fun i e he=>(h.at_ i e he).putObj hl ho o',qE h.bw hw _⟩
theorem Tn.abides (A:Option Addr) (c:Nat) (B:Option Addr) (d:Nat) (p:Nm.Vec) (w:World) (D:Nat) (hD:w.heap.size+3≤D):sH (Tn A c B d p w D):=by
 intro X Y pre W X' Y' W' h ht hX hY;refine ⟨h.b.turn ht (fun b hb=>by have:=h.sep b (.inl hb);simp [qP];omega) (by have:=h.sz;omega),Nat.le_trans h.sz ht.size,?_⟩
 rintro b (hb | hb)
 · rcases hX b hb with h2 | h2
   · exact h.sep b (.inl h2)
   · exact Nat.le_trans h.sz h2
 · rcases hY b hb with h2 | h2
   · exact h.sep b (.inr h2)
   · exact Nat.le_trans h.sz h2
theorem Tn.putObj {A:Option Addr} {c:Nat} {B:Option Addr} {d:Nat} {p:Nm.Vec} {w:World} {D:Nat} {X Y:Nat→Prop} {pre:List Nat} {W:World} {lp:Nat} {o:Obj} (h:Tn A c B d p w D X Y pre W) (hD:w.heap.size≤D) (hlp:D≤lp) (hl:W.heap[lp]? =some o) (ho:o.isCells=false) (o':Obj):Tn A c B d p w D X Y pre (W.putObj lp o'):=
 ⟨h.b.putObj (by omega) hl ho o',by simpa using h.sz,h.sep⟩
theorem JV {W:World} {g:Nat} {a b:Nm.Vec} {t:TypeId} (h:Held W g (gy a b) t):W.rangeAt g 0 (aN a):=fun j v hj=>by
 rw [Nat.zero_add];exact h.cell (by unfold gy;rw [List.getElem?_append_left (by have:=(List.getElem?_eq_some_iff.1 hj).1;exact this)];exact hj)
theorem TF {W:World} {g:Nat} {a b:Nm.Vec} {t:TypeId} (h:Held W g (gy a b) t):W.rangeAt g 8 (aN b):=fun j v hj=>
 h.cell (by unfold gy;rw [List.getElem?_append_right (by show 8≤_;omega),show 8+j - (aN a).length=j by show 8+j - 8=j;omega];exact hj)
theorem KJ (S:Nat→Prop) (A B:Option Addr) (c d:Nat) (p:Nm.Vec) (w:World) (hL:oG w S A c corners) (hok:UZ p=true):
 Calls Tryz.prog 44 #[rZ A c B d,pO p] w fun e w'=>e= .returned (.int .i64 (yR p 4))∧Below w.heap.size w w':=by
 refine callsIn_wide.1 (callsIn_of_wp_marks (F:=Fence.wide) (n:=5) Tryz.func44 rfl trivial ?_ rfl)
 simp only [Tryz.ntmps44,List.size_toArray,List.length_cons,List.length_nil,Nat.reduceAdd,Nat.reduceSub,Array.replicate_succ,
  Array.replicate_zero,List.push_toArray,List.append_toArray,List.nil_append,List.cons_append]
 refine wpIn_wide.2 ?_
 generalize hQ':bodyPostM Fence.wide 5 Tryz.prog _ _=Q'
 have HQ:=hide hQ';clear hQ'
 go_upto_region 1 with (fail)
 go_cut [2,3,5] from 2 to 8 (fun v2 v3 v5 w1=>v2=ptr w.heap.size∧v3=ptr (w.heap.size+1)∧v5=ptr (w.heap.size+2)∧aC w w1 (qP A c B d p 0))
 case first=>
  go_wp2;go_meet;exact ⟨rfl,rfl,rfl,((((aC.nil w).new (by simp) (aZ A c B d) _).new (by simp) (aN p) _).new (by simp) ([.int .i64 1]) _)⟩
 case rest=>
  obtain ⟨rfl,rfl,rfl,hB⟩:=hcut
  rename World=>w1
  have hR1:oG w1 (fun b=>b=w1.heap.size∨(S b∧b<w.heap.size)) A c corners:=(Reads.more hL (S':=(fun b=>b=w1.heap.size∨(S b∧b<w.heap.size))) (fun b hb h=> .inr ⟨h,hb⟩)).below hB.bw;have hs1:=hB.size (by simp [qP])
  simp only [qP,List.length_cons,List.length_nil] at hs1
  go_wp2_with (first | (go_at_call 80;refine (RN A B c d _).mono ?_;rintro e w3 ⟨rfl,hC⟩) | (refine dA 72 (.tmp 2) rfl ?_;refine cO (hB.aj rfl) Tryz.underlying72 rfl iP rfl (.tmp 2) rfl rfl ?_))
  have hs3:=hC.size (by simp)
  simp only [List.length_cons,List.length_nil] at hs3
  have hB3:=hB.upto hC.bw (by simpa [qP] using hs1)
  have hK3:∀ b,(fun b=>b=w1.heap.size∨(S b∧b<w.heap.size)) b→b<w3.heap.size:=by rintro b (h | ⟨_,h⟩) <;> omega
  have Ul:oG w3 (fun b=>b=w1.heap.size∨(S b∧b<w.heap.size)) A c corners:=Reads.below hR1 hC.bw;rename_i KQ hKQ;refine (wpIn_wide (n:=5)).1 ?_
  refine nV (F:=Fence.wide) rfl (by decide) rfl trivial (enters_of Tryz.func148 (by kernel_rfl) rfl) (MJ (fun b=>b=w1.heap.size∨(S b∧b<w.heap.size)) A B c d (fun b=>b=w1.heap.size∨(S b∧b<w.heap.size)) w1.heap.size 4 w3 (by decide) hK3 (hC.aj rfl) (.inl rfl) Ul) hK3 (Below.refl _ _) (fun _=>rfl) (Tn A c B d p w w3.heap.size) (fun _ _ _ _=>False) (Tn.abides A c B d p w w3.heap.size (by omega)) (fun _ _ _ _ _ _ _ h _ _ _=>h)
   (fun X Y pre W lp o o' h hlp hl ho=>h.putObj (by omega) hlp hl ho o') (fun _ _ _ _ _ _ _ h _ _ _=>h) (fun X Y pre x W lp o o' h hlp hl ho=>h) ?h0 (fun x a W=>∃ Be v0 v1 v4 v6 v8 v9 v10 v11 v12 v13 v14 v15 v16 v17 v18 v19 v20 v21 v22 v23 v24 v25,a= {tmps:= #[v0,v1,ptr w.heap.size,ptr (w.heap.size+1),v4,ptr (w.heap.size+2),v6,ptr Be,v8,v9,v10,v11,v12,v13,v14,v15,v16,v17,v18,v19,v20,v21,v22,v23,v24,v25],defers:=[] }∧w3.heap.size≤Be∧Held W Be (gy (cv x) (cv ((x+1) % 4))) 170) ?assign ?ap ?body ?done ?stop
  case h0=>
   intro W hW;exact ⟨hB3.upto hW (by simp [qP];omega),hW.size,fun b h=>h.elim (fun h=>h.elim) (fun h=>h.elim)⟩
  case ap=>
   rintro x a' W lp o o' ⟨Be,v0,v1,v4,v6,v8,v9,v10,v11,v12,v13,v14,v15,v16,v17,v18,v19,v20,v21,v22,v23,v24,v25,e2,h1,h2⟩ hlp hl ho
   exact ⟨Be,v0,v1,v4,v6,v8,v9,v10,v11,v12,v13,v14,v15,v16,v17,v18,v19,v20,v21,v22,v23,v24,v25,e2,h1,h2.putObj hl ho _⟩
  case stop=>exact fun _ _ _ _ _ _ _ h _=>h.elim
  case assign=>
   intro lp X Y pre x W K' hi ht hk SV;have hb:=((Below.refl W.heap.size W).alloc (Nat.le_refl _) (.cells (gy (⟨0,0⟩,⟨0,0⟩) (⟨0,0⟩,⟨0,0⟩)).toArray 170));have hb':=below_setCells W.heap.size (Nat.le_refl _) (gy (cv x) (cv ((x+1) % 4))) 0 _ _ hb;have hE0:=Held.new W (gy (⟨0,0⟩,⟨0,0⟩) (⟨0,0⟩,⟨0,0⟩)) 170;have hsz:=hi.sz
   have fin:∀ v0 v1 v4 v6 v8 v9 v10 v11 v12 v13 v14 v15 v16 v17 v18 v19 v20 v21 v22 v23 v24 v25:Value,K' {tmps:= #[v0,v1,ptr w.heap.size,ptr (w.heap.size+1),v4,ptr (w.heap.size+2),v6,ptr W.heap.size,v8,v9,v10,v11,v12,v13,v14,v15,v16,v17,v18,v19,v20,v21,v22,v23,v24,v25],defers:=[] } ((W.alloc (.cells (gy (⟨0,0⟩,⟨0,0⟩) (⟨0,0⟩,⟨0,0⟩)).toArray 170)).setCells W.heap.size 0 (gy (cv x) (cv ((x+1) % 4)))):=fun _ _ _ _ _ _ _ _ _ _ _ _ _ _ _ _ _ _ _ _ _ _=>
    hk _ _ ⟨hb'.size,fun k o hk hl _=>(hb'.block k (Array.getElem?_eq_some_iff.1 hl).1).trans hl⟩
     ⟨hb'.size,fun b h=>hb'.block b (SV b h),fun b h=>hb'.block b (Nat.lt_of_lt_of_le (hK3 b h) hsz)⟩
     (Tn.abides A c B d p w w3.heap.size (by omega) _ _ _ _ _ _ _ hi (Turn.of_below hb') (fun b h=> .inl h) (fun b h=> .inl h)) ht
     ⟨W.heap.size,_,_,_,_,_,_,_,_,_,_,_,_,_,_,_,_,_,_,_,_,_,_,rfl,hsz,hE0.whole _ rfl⟩
   have FIN:=hide fin;clear hk fin hb hb' hi ht SV hsz;obtain ⟨v1,hv1⟩:∃ v,cv x=v:=⟨_,rfl⟩;obtain ⟨v2,hv2⟩:∃ v,cv ((x+1) % 4)=v:=⟨_,rfl⟩
   simp only [zD,hv1,hv2] at FIN ⊢
   clear hv1 hv2
   simp
   refine lD (by kernel_rfl) (by rintro ⟨_,_,h⟩;exact h) ?_
   go_wp2_with (refine fO 170 (.tmp 7) (.tmp 11) rfl ?_;refine dP (hE0) (gy v1 v2) rfl wO (Fb _ _) rfl (.tmp 7) (.tmp 11) rfl rfl rfl ?_)
   exact FIN.out _ _ _ _ _ _ _ _ _ _ _ _ _ _ _ _ _ _ _ _ _ _
  case body=>
   rintro lp X Y pre x a' W hi ht ⟨Be,v0,v1,v4,v6,v8,v9,v10,v11,v12,v13,v14,v15,v16,v17,v18,v19,v20,v21,v22,v23,v24,v25,rfl,hBe,hE⟩ hlt SV hWs
   obtain ⟨hx,hx4⟩:=ht;have hso:=U1 hok hx4
   unfold xk at hso
   simp only [Bool.and_eq_true] at hso
   obtain ⟨⟨⟨o1,o2⟩,o3⟩,o4⟩:=hso
   have hst:yR p (pre++[x]).length=min (yR p pre.length) (Jw p pre.length):=by rw [List.length_append];rfl
   rw [← hx] at hst;have NG:=fun W=>xI (cv ((x+1) % 4)) (cv x) W o2 o1;have HL2:=fun W=>xI p (cv x) W o3 o1;have HC:=fun W=>KO (Nm.jT (cv ((x+1) % 4)) (cv x)) (Nm.jT p (cv x)) W o4;have HS:=fun W=>jE (Nm.cross (Nm.jT (cv ((x+1) % 4)) (cv x)) (Nm.jT p (cv x))) W;rw [show Jw p x=Nm.nC (Nm.cross (Nm.jT (cv ((x+1) % 4)) (cv x)) (Nm.jT p (cv x))).n from rfl] at hst;obtain ⟨u1,hu1⟩:∃ u,Nm.jT (cv ((x+1) % 4)) (cv x)=u:=⟨_,rfl⟩;obtain ⟨u2,hu2⟩:∃ u,Nm.jT p (cv x)=u:=⟨_,rfl⟩
   simp only [hu1] at NG HC HS hst
   simp only [hu2] at HL2 HC HS hst
   obtain ⟨cr,hcr⟩:∃ u,Nm.cross u1 u2=u:=⟨_,rfl⟩
   simp only [hcr] at HC HS hst
   obtain ⟨z,hz⟩:∃ u,Nm.nC cr.n=u:=⟨_,rfl⟩
   simp only [hz] at HS hst
   obtain ⟨v1,hv1⟩:∃ v,cv x=v:=⟨_,rfl⟩;obtain ⟨v2,hv2⟩:∃ v,cv ((x+1) % 4)=v:=⟨_,rfl⟩
   simp only [hv1] at NG HL2 hE
   simp only [hv2] at NG hE
   clear hu1 hu2 hcr hz hv1 hv2 o1 o2 o3 o4;have hBi:=hi.b;have hsep:=hi.sep;have hWz:=hi.sz;obtain ⟨m,hm⟩:∃ m,yR p pre.length=m:=⟨_,rfl⟩;rw [← hx] at hm
   have hB2:aC w W [(aZ A c B d,72),(aN p,111),([.int .i64 m],3)]:=by rw [← hm,hx];exact hBi
   rw [hm] at hst
   have fin:∀ (a:Act) (W4:World),Below W.heap.size W W4→AX (fun b=>b=w1.heap.size∨(S b∧b<w.heap.size)) w3.heap.size X Y (Tn A c B d p w w3.heap.size) (fun _ _ _ _=>False) (pre++[x]) W .normal a (W4.setCell ⟨w.heap.size+2,0,none⟩ (.int .i64 (min m z))):=by
    intro a W4 hb4;have hB4:=(hB2.call (by simp) hb4).set 2 rfl 0 (.int .i64 (min m z));have hne:∀ b,b≠w.heap.size+2→b<W.heap.size→(W4.setCell ⟨w.heap.size+2,0,none⟩ (.int .i64 (min m z))).heap[b]? =W.heap[b]? :=fun b h h'=>(Below.heap_setCell W4 ⟨w.heap.size+2,0,none⟩ _ b h).trans (hb4.block b h')
    have XC:W.heap.size≤(W4.setCell ⟨w.heap.size+2,0,none⟩ (.int .i64 (min m z))).heap.size:=by simpa [World.setCell] using hb4.size
    refine ⟨⟨XC,fun k o hk hl _=>(hne k (by omega) (Array.getElem?_eq_some_iff.1 hl).1).trans hl⟩,⟨XC,fun b h=>hne b (by have:=hsep b h;omega) (SV b h).2,fun b h=>hne b (by rcases h with h | ⟨_,h⟩ <;> omega) (Nat.lt_of_lt_of_le (hK3 b h) hWz)⟩,⟨?_,Nat.le_trans hWz XC,hsep⟩⟩;rw [qP,hst];exact hB4
   have FIN:=hide fin;clear fin hi hBi hst;have hcell:W.drew.cell? ⟨w.heap.size+2,0,none⟩=some (.int .i64 m):=(hB2.get 2 rfl).cell (j:=0) rfl;have hB0:=hB2.drew;have hE0:=hE.drew;have NG:=hide NG;have HL2:=hide HL2;have HC:=hide HC;have HS:=hide HS;apply wpIn_block;refine rG (S:=(fun w':World=>Held w' Be (gy v1 v2) 170∧Held w' (w.heap.size+1) (aN p) 111)) (by kernel_rfl) (by rintro ⟨_,_,h⟩;exact h) (by kernel_rfl) ?jF (fun hHeld=>?_)
   case jF=>exact ⟨hE0,hB0.get 1 rfl⟩
   refine tk 1 ?_;refine wpAnyH_take (i:=2) (oi:=_) (v:=_) (ga rfl) (by kernel_rfl) (by kernel_rfl) (by kernel_rfl) (fun _ _ _ h=>h) (yieldsIf_load_mid (by rfl) _ _ (by rfl) _ _ (by rfl) _ _ (fun _ h=>TF h.1) Tryz.underlying111 rfl (by kernel_rfl)) (by assumption) ?_
   try simp only [Act.put,la,lz,ls]
   refine tk 3 ?_;refine wpAnyH_take (i:=4) (oi:=_) (v:=_) (ga rfl) (by kernel_rfl) (by kernel_rfl) (by kernel_rfl) (fun _ _ _ h=>h) (yieldsIf_load_mid (by rfl) _ _ (by rfl) _ _ (by rfl) _ _ (fun _ h=>JV h.1) Tryz.underlying111 rfl (by kernel_rfl)) (by assumption) ?_
   try simp only [Act.put,la,lz,ls]
   refine wpAnyH_take (i:=6) (oi:=_) (v:=_) (ga rfl) (by kernel_rfl) (by kernel_rfl) (by kernel_rfl) (fun _ _ _ h=>h) (yieldsIf_load_mid (by rfl) _ _ (by rfl) _ _ (by rfl) _ _ (fun _ h=>h.2.range) Tryz.underlying111 rfl (by kernel_rfl)) (by assumption) ?_
   try simp only [Act.put,la,lz,ls]
   refine tk 7 ?_;refine wpAnyH_take (i:=8) (oi:=_) (v:=_) (ga rfl) (by kernel_rfl) (by kernel_rfl) (by kernel_rfl) (fun _ _ _ h=>h) (yieldsIf_load_mid (by rfl) _ _ (by rfl) _ _ (by rfl) _ _ (fun _ h=>JV h.1) Tryz.underlying111 rfl (by kernel_rfl)) (by assumption) ?_
   try simp only [Act.put,la,lz,ls]
   refine wpAnyH_ready (rs:=[0,5]) (by kernel_rfl) (by simp) ?_;refine AllReadyH.cons (o:=_) (ga rfl) (fun K hK=>?_) (AllReadyH.cons (o:=_) (ga rfl) (fun K hK=>?_) AllReadyH.nil)
   · go_simp
     refine hK.out _ _ ?QG (fun hHeld=>?_)
     case QG=>(assumption)
     clear hK K
     try simp only [Act.put,la,lz,ls]
     refine tr 5 fun K hK=>?_;go_simp
     (go_at_call 81;refine (NG.out _).mono ?_;rintro e w11 ⟨rfl,hb1⟩)
     have hB1:=hB0.call (by simp) hb1;have hE1:=hE0.below hb1;have hc1:=(hB1.get 2 rfl).cell (j:=0) rfl;have aja:=(hB1.get 2 rfl).frozen 0;have IQ:=(Below.refl _ _).trans (hb1);refine hK.out _ _ ?QW (fun hHeld=>?_)
     case QW=>(exact ⟨hE1,hB1.get 1 rfl⟩)
     clear hK K
     try simp only [Act.put,la,lz,ls]
     refine tr 9 fun K hK=>?_;go_simp
     (go_at_call 81;refine (HL2.out _).mono ?_;rintro e w12 ⟨rfl,hb2⟩)
     have hB2:=hB1.call (by simp) hb2;have hE2:=hE1.below hb2;have hc2:=(hB2.get 2 rfl).cell (j:=0) rfl;have Zw:=(hB2.get 2 rfl).frozen 0;have hbw2:=IQ.trans (hb2.mono IQ.size);refine hK.out _ _ ?Rl (fun hHeld=>?_)
     case Rl=>(exact ⟨hE2,hB2.get 1 rfl⟩)
     clear hK K
     try simp only [Act.put,la,lz,ls]
     refine tr 10 fun K hK=>?_;go_simp
     (go_at_call 82;refine (HC.out _).mono ?_;rintro e w13 ⟨rfl,hb3⟩)
     have hB3:=hB2.call (by simp) hb3;have Ns:=hE2.below hb3;have hc3:=(hB3.get 2 rfl).cell (j:=0) rfl;have Xl:=(hB3.get 2 rfl).frozen 0;have hbw3:=hbw2.trans (hb3.mono hbw2.size);refine hK.out _ _ ?LZ (fun hHeld=>?_)
     case LZ=>(exact ⟨Ns,hB3.get 1 rfl⟩)
     clear hK K
     try simp only [Act.put,la,lz,ls]
     refine tr 11 fun K hK=>?_;go_simp
     (go_at_call 83;refine (HS.out _).mono ?_;rintro e w14 ⟨rfl,hb4⟩)
     have hB4:=hB3.call (by simp) hb4;have J4:=Ns.below hb4;have hc4:=(hB4.get 2 rfl).cell (j:=0) rfl;have Ut:=(hB4.get 2 rfl).frozen 0;have wS:=hbw3.trans (hb4.mono hbw3.size);refine hK.out _ _ ?L9 (fun hHeld=>?_)
     case L9=>(exact ⟨J4,hB4.get 1 rfl⟩)
     clear hK K
     try simp only [Act.put,la,lz,ls]
     refine tk 12 ?_;refine tr 13 fun K hK=>?_;go_simp;refine hK.out _ _ ?Me (fun hHeld=>?_)
     case Me=>(exact ⟨J4.other (g':=w.heap.size+2) (by omega) 0 _,(hB4.set 2 rfl 0 _).get 1 rfl⟩)
     clear hK K
     try simp only [Act.put,la,lz,ls]
     refine wpAnyH_done (by kernel_rfl) ?_ _;exact FIN.out {tmps:= #[],defers:=[] } _ (lN wS)
   · go_simp
     (go_at_call 81;refine (NG.out _).mono ?_;rintro e w11 ⟨rfl,hb1⟩)
     have hB1:=hB0.call (by simp) hb1;have hE1:=hE0.below hb1;have hc1:=(hB1.get 2 rfl).cell (j:=0) rfl;have aja:=(hB1.get 2 rfl).frozen 0;have IQ:=(Below.refl _ _).trans (hb1);refine hK.out _ _ ?QX (fun hHeld=>?_)
     case QX=>(exact ⟨hE1,hB1.get 1 rfl⟩)
     clear hK K
     try simp only [Act.put,la,lz,ls]
     refine wpAnyH_ready (rs:=[0,9]) (by kernel_rfl) (by simp) ?_;refine AllReadyH.cons (o:=_) (ga rfl) (fun K hK=>?_) (AllReadyH.cons (o:=_) (ga rfl) (fun K hK=>?_) AllReadyH.nil)
     · go_simp
       refine hK.out _ _ ?QJ (fun hHeld=>?_)
       case QJ=>(assumption)
       clear hK K
       try simp only [Act.put,la,lz,ls]
       refine tr 9 fun K hK=>?_;go_simp
       (go_at_call 81;refine (HL2.out _).mono ?_;rintro e w12 ⟨rfl,hb2⟩)
       have hB2:=hB1.call (by simp) hb2;have hE2:=hE1.below hb2;have hc2:=(hB2.get 2 rfl).cell (j:=0) rfl;have Zw:=(hB2.get 2 rfl).frozen 0;have hbw2:=IQ.trans (hb2.mono IQ.size);refine hK.out _ _ ?Rn (fun hHeld=>?_)
       case Rn=>(exact ⟨hE2,hB2.get 1 rfl⟩)
       clear hK K
       try simp only [Act.put,la,lz,ls]
       refine tr 10 fun K hK=>?_;go_simp
       (go_at_call 82;refine (HC.out _).mono ?_;rintro e w13 ⟨rfl,hb3⟩)
       have hB3:=hB2.call (by simp) hb3;have Ns:=hE2.below hb3;have hc3:=(hB3.get 2 rfl).cell (j:=0) rfl;have Xl:=(hB3.get 2 rfl).frozen 0;have hbw3:=hbw2.trans (hb3.mono hbw2.size);refine hK.out _ _ ?L6 (fun hHeld=>?_)
       case L6=>(exact ⟨Ns,hB3.get 1 rfl⟩)
       clear hK K
       try simp only [Act.put,la,lz,ls]
       refine tr 11 fun K hK=>?_;go_simp
       (go_at_call 83;refine (HS.out _).mono ?_;rintro e w14 ⟨rfl,hb4⟩)
       have hB4:=hB3.call (by simp) hb4;have J4:=Ns.below hb4;have hc4:=(hB4.get 2 rfl).cell (j:=0) rfl;have Ut:=(hB4.get 2 rfl).frozen 0;have wS:=hbw3.trans (hb4.mono hbw3.size);refine hK.out _ _ ?Mc (fun hHeld=>?_)
       case Mc=>(exact ⟨J4,hB4.get 1 rfl⟩)
       clear hK K
       try simp only [Act.put,la,lz,ls]
       refine tk 12 ?_;refine tr 13 fun K hK=>?_;go_simp;refine hK.out _ _ ?MB (fun hHeld=>?_)
       case MB=>(exact ⟨J4.other (g':=w.heap.size+2) (by omega) 0 _,(hB4.set 2 rfl 0 _).get 1 rfl⟩)
       clear hK K
       try simp only [Act.put,la,lz,ls]
       refine wpAnyH_done (by kernel_rfl) ?_ _;exact FIN.out {tmps:= #[],defers:=[] } _ (lN wS)
     · go_simp
       (go_at_call 81;refine (HL2.out _).mono ?_;rintro e w12 ⟨rfl,hb2⟩)
       have hB2:=hB1.call (by simp) hb2;have hE2:=hE1.below hb2;have hc2:=(hB2.get 2 rfl).cell (j:=0) rfl;have Zw:=(hB2.get 2 rfl).frozen 0;have hbw2:=IQ.trans (hb2.mono IQ.size);refine hK.out _ _ ?Ro (fun hHeld=>?_)
       case Ro=>(exact ⟨hE2,hB2.get 1 rfl⟩)
       clear hK K
       try simp only [Act.put,la,lz,ls]
       refine wpAnyH_ready (rs:=[0,10]) (by kernel_rfl) (by simp) ?_;refine AllReadyH.cons (o:=_) (ga rfl) (fun K hK=>?_) (AllReadyH.cons (o:=_) (ga rfl) (fun K hK=>?_) AllReadyH.nil)
       · go_simp
         refine hK.out _ _ ?QK (fun hHeld=>?_)
         case QK=>(assumption)
         clear hK K
         try simp only [Act.put,la,lz,ls]
         refine tr 10 fun K hK=>?_;go_simp
         (go_at_call 82;refine (HC.out _).mono ?_;rintro e w13 ⟨rfl,hb3⟩)
         have hB3:=hB2.call (by simp) hb3;have Ns:=hE2.below hb3;have hc3:=(hB3.get 2 rfl).cell (j:=0) rfl;have Xl:=(hB3.get 2 rfl).frozen 0;have hbw3:=hbw2.trans (hb3.mono hbw2.size);refine hK.out _ _ ?L8 (fun hHeld=>?_)
         case L8=>(exact ⟨Ns,hB3.get 1 rfl⟩)
         clear hK K
         try simp only [Act.put,la,lz,ls]
         refine tr 11 fun K hK=>?_;go_simp
         (go_at_call 83;refine (HS.out _).mono ?_;rintro e w14 ⟨rfl,hb4⟩)
         have hB4:=hB3.call (by simp) hb4;have J4:=Ns.below hb4;have hc4:=(hB4.get 2 rfl).cell (j:=0) rfl;have Ut:=(hB4.get 2 rfl).frozen 0;have wS:=hbw3.trans (hb4.mono hbw3.size);refine hK.out _ _ ?Md (fun hHeld=>?_)
         case Md=>(exact ⟨J4,hB4.get 1 rfl⟩)
         clear hK K
         try simp only [Act.put,la,lz,ls]
         refine tk 12 ?_;refine tr 13 fun K hK=>?_;go_simp;refine hK.out _ _ ?MC (fun hHeld=>?_)
         case MC=>(exact ⟨J4.other (g':=w.heap.size+2) (by omega) 0 _,(hB4.set 2 rfl 0 _).get 1 rfl⟩)
         clear hK K
         try simp only [Act.put,la,lz,ls]
         refine wpAnyH_done (by kernel_rfl) ?_ _;exact FIN.out {tmps:= #[],defers:=[] } _ (lN wS)
       · go_simp
         (go_at_call 82;refine (HC.out _).mono ?_;rintro e w13 ⟨rfl,hb3⟩)
         have hB3:=hB2.call (by simp) hb3;have Ns:=hE2.below hb3;have hc3:=(hB3.get 2 rfl).cell (j:=0) rfl;have Xl:=(hB3.get 2 rfl).frozen 0;have hbw3:=hbw2.trans (hb3.mono hbw2.size);refine hK.out _ _ ?Jq (fun hHeld=>?_)
         case Jq=>(exact ⟨Ns,hB3.get 1 rfl⟩)
         clear hK K
         try simp only [Act.put,la,lz,ls]
         refine wpAnyH_ready (rs:=[0,11]) (by kernel_rfl) (by simp) ?_;refine AllReadyH.cons (o:=_) (ga rfl) (fun K hK=>?_) (AllReadyH.cons (o:=_) (ga rfl) (fun K hK=>?_) AllReadyH.nil)
         · go_simp
           refine hK.out _ _ ?LX (fun hHeld=>?_)
           case LX=>(assumption)
           clear hK K
           try simp only [Act.put,la,lz,ls]
           refine tr 11 fun K hK=>?_;go_simp
           (go_at_call 83;refine (HS.out _).mono ?_;rintro e w14 ⟨rfl,hb4⟩)
           have hB4:=hB3.call (by simp) hb4;have J4:=Ns.below hb4;have hc4:=(hB4.get 2 rfl).cell (j:=0) rfl;have Ut:=(hB4.get 2 rfl).frozen 0;have wS:=hbw3.trans (hb4.mono hbw3.size);refine hK.out _ _ ?Jr (fun hHeld=>?_)
           case Jr=>(exact ⟨J4,hB4.get 1 rfl⟩)
           clear hK K
           try simp only [Act.put,la,lz,ls]
           refine tk 12 ?_;refine tr 13 fun K hK=>?_;go_simp;refine hK.out _ _ ?Jt (fun hHeld=>?_)
           case Jt=>(exact ⟨J4.other (g':=w.heap.size+2) (by omega) 0 _,(hB4.set 2 rfl 0 _).get 1 rfl⟩)
           clear hK K
           try simp only [Act.put,la,lz,ls]
           refine wpAnyH_done (by kernel_rfl) ?_ _;exact FIN.out {tmps:= #[],defers:=[] } _ (lN wS)
         · go_simp
           (go_at_call 83;refine (HS.out _).mono ?_;rintro e w14 ⟨rfl,hb4⟩)
           have hB4:=hB3.call (by simp) hb4;have J4:=Ns.below hb4;have hc4:=(hB4.get 2 rfl).cell (j:=0) rfl;have Ut:=(hB4.get 2 rfl).frozen 0;have wS:=hbw3.trans (hb4.mono hbw3.size);refine hK.out _ _ ?Js (fun hHeld=>?_)
           case Js=>(exact ⟨J4,hB4.get 1 rfl⟩)
           clear hK K
           try simp only [Act.put,la,lz,ls]
           refine tr 0 fun K hK=>?_;go_simp;refine hK.out _ _ ?LY (fun hHeld=>?_)
           case LY=>(assumption)
           clear hK K
           try simp only [Act.put,la,lz,ls]
           refine tk 12 ?_;refine tr 13 fun K hK=>?_;go_simp;refine hK.out _ _ ?Ju (fun hHeld=>?_)
           case Ju=>(exact ⟨J4.other (g':=w.heap.size+2) (by omega) 0 _,(hB4.set 2 rfl 0 _).get 1 rfl⟩)
           clear hK K
           try simp only [Act.put,la,lz,ls]
           refine wpAnyH_done (by kernel_rfl) ?_ _;exact FIN.out {tmps:= #[],defers:=[] } _ (lN wS)
  case done=>
   intro D X Y xs W hD hS hi hdef;have jP:=hi.b;rw [hS,show qP A c B d p (List.range 4).length=[(aZ A c B d,72),(aN p,111),([.int .i64 (yR p 4)],3)] from rfl] at jP;obtain ⟨m,hm⟩:∃ m,yR p 4=m:=⟨_,rfl⟩;rw [hm] at jP;have HM:=hide hm;have hc9:=(jP.get 2 rfl).cell (j:=0) rfl
   have hD':w.heap.size≤D:=by omega
   have WB:=hide hdef;clear hm hi hS hdef;refine hKQ _ _ ?_
   dsimp only
   refine yK ?_;go_wp2
   show Q' .ret _ _
   rw [← HQ.out,HM.out];exact vN rfl WB.out (results_tmp (t:=4) rfl _ _ _) ⟨rfl,qE jP.bw hD' _⟩
abbrev Nm.nM:=Nm.Fr × Nm.Fr × Nm.Fr
@[reducible] def sdV (x:Nm.nM):Value:= .agg #[.int .i64 x.1.n,.slice none 0 0,.int .i64 x.1.d,.slice none 0 0,.int .i64 x.2.1.n,.slice none 0 0,.int .i64 x.2.1.d,.slice none 0 0,.int .i64 x.2.2.n,.slice none 0 0,.int .i64 x.2.2.d,.slice none 0 0]
def aT (x:Nm.nM):List Value:=[.int .i64 x.1.n,.slice none 0 0,.int .i64 x.1.d,.slice none 0 0,.int .i64 x.2.1.n,.slice none 0 0,.int .i64 x.2.1.d,.slice none 0 0,.int .i64 x.2.2.n,.slice none 0 0,.int .i64 x.2.2.d,.slice none 0 0]
theorem Au (x:Nm.nM):∀ v∈aT x,v.oneCell'=true:=by simp [aT,Value.oneCell']
theorem gQ:(Tryz.prog.info? 128).map (·.size)=some 12:=by kernel_rfl
def Nm.RV (x y:Nm.nM):Nm.Fr:=Nm.sub x.1 y.1
def Nm.YT (x y:Nm.nM):Nm.Fr:=Nm.mul (Nm.RV x y) (Nm.RV x y)
def Nm.RX (x:Nm.nM):Nm.Fr:=Nm.mul x.2.1 x.2.1
def Nm.Nw (x:Nm.nM):Nm.Fr:=Nm.mul (Nm.RX x) x.2.2
def Nm.ML (x y:Nm.nM):Nm.Fr:=Nm.add (Nm.YT x y) (Nm.Nw x)
def Nm.Yn (x y:Nm.nM):Nm.Fr:=Nm.sub (Nm.ML x y) (Nm.Nw y)
def Nm.YU (x y:Nm.nM):Nm.Fr:=Nm.mul ⟨2,1⟩ (Nm.RV x y)
def Nm.Yo (x y:Nm.nM):Nm.Fr:=Nm.mul (Nm.YU x y) x.2.1
def Nm.Ny (x y:Nm.nM):Int:=Nm.pG (Nm.RV x y) x.2.1 x.2.2
def Nm.Td (y:Nm.nM):Int:=Nm.nC y.2.1.n*Nm.nC y.2.2.n
def Nm.Es (x y:Nm.nM):Int:=if Nm.Ny x y≠Nm.Td y then max (-1) (min 1 (Nm.Ny x y - Nm.Td y)) else Nm.Ny x y*Nm.pG (Nm.Yn x y) (Nm.Yo x y) x.2.2
def Nm.RY (x:Nm.nM):Bool:=Nm.ok x.1 && Nm.ok x.2.1 && Nm.ok x.2.2
def Nm.Vm (x y:Nm.nM):Bool:=Nm.RY x && Nm.RY y && Nm.ok (Nm.RV x y) && Nm.Vo (Nm.RV x y) x.2.1 x.2.2 && (decide (Nm.Ny x y≠Nm.Td y) ||
 (Nm.ok (Nm.YT x y) && Nm.ok (Nm.RX x) && Nm.ok (Nm.Nw x) && Nm.ok (Nm.ML x y) && Nm.ok (Nm.RX y) && Nm.ok (Nm.Nw y) && Nm.ok (Nm.YU x y) && Nm.Vo (Nm.Yn x y) (Nm.Yo x y) x.2.2))
theorem GH (x y:Nm.nM) (w:World) (h:Nm.Vm x y=true):Calls Tryz.prog 55 #[sdV x,sdV y] w fun e w'=>e= .returned (.int .i64 (Nm.Es x y))∧Below w.heap.size w w':=by
 unfold Nm.Vm Nm.RY at h
 simp only [Bool.and_eq_true,Bool.or_eq_true,decide_eq_true_eq] at h
 obtain ⟨⟨⟨⟨⟨⟨x1,x2⟩,x3⟩,⟨y1,y2⟩,y3⟩,hP⟩,hU⟩,h⟩:=h;have HU:=fun W=>xG (Nm.RV x y) x.2.1 x.2.2 W hU;have HP:=fun W=>lQ x.1 y.1 W x1 y1;have c1:=yG (Nm.RV x y) x.2.1 x.2.2;have c2:=lZ (lI y.2.1.n) (lI y.2.2.n);have hv:Nm.Td y=Nm.nC y.2.1.n*Nm.nC y.2.2.n:=rfl;have hu:Nm.Ny x y=Nm.pG (Nm.RV x y) x.2.1 x.2.2:=rfl;have w2:=wrap_one c2;rw [← hu] at c1;rw [← hv] at c2 w2
 simp only [← hu] at HU
 rw [show Nm.sub x.1 y.1=Nm.RV x y from rfl] at HP;clear hu hv;have T:=fun (hne:Nm.Ny x y=Nm.Td y)=>h.resolve_left (by simpa using hne);have Nr:=fun (hne:Nm.Ny x y≠Nm.Td y)=>(show Nm.Es x y=max (-1) (min 1 (Nm.Ny x y - Nm.Td y)) by unfold Nm.Es;rw [if_pos hne]);have HS2:=fun (hne:Nm.Ny x y=Nm.Td y)=>(show Nm.Es x y=Nm.Ny x y*Nm.pG (Nm.Yn x y) (Nm.Yo x y) x.2.2 by unfold Nm.Es;rw [if_neg (by simpa using hne)]);have HT:=hide T;have Nr:=hide Nr;have HS2:=hide HS2;clear T h;obtain ⟨P,hPP⟩:∃ q,Nm.RV x y=q:=⟨_,rfl⟩;obtain ⟨U,hUU⟩:∃ q,Nm.Ny x y=q:=⟨_,rfl⟩;obtain ⟨V,hVV⟩:∃ q,Nm.Td y=q:=⟨_,rfl⟩
 simp only [hPP] at HP HU hP
 simp only [hUU] at HU c1
 have Xd:Nm.nC y.2.1.n*Nm.nC y.2.2.n=V:=hVV
 simp only [hVV] at c2 w2
 have EV:=hide hVV;have EU:=hide hUU;have EP:=hide hPP;have HP:=hide HP;have HU:=hide HU;clear hPP hUU hVV hU
 go_enter Tryz.func55,Tryz.ntmps55
 go_upto_region 0 with (fail)
 go_cut [2,3] (fun v2 v3 wx=>v2=ptr (w.heap.size)∧v3=ptr (w.heap.size+1)∧Bx w wx [(w.heap.size,aT x,128),(w.heap.size+1,aT y,128)])
 case first=>
  go_wp2;go_meet;exact ⟨rfl,rfl,Bx.of (((aC.nil w).new (by simp) (aT x) 128).new (by simp) (aT y) 128) _ rfl⟩
 case rest=>
  obtain ⟨rfl,rfl,hL⟩:=hcut
  go_upto_region 1 with (fail)
  have rx:=hL.rng 0 rfl 0 (ah x.1) rfl;have ry:=hL.rng 1 rfl 0 (ah y.1) rfl
  go_cut [5] (fun v5 wx=>∃ B5,v5=ptr B5∧Bx w wx [(B5,ah (P),109),(w.heap.size,aT x,128),(w.heap.size+1,aT y,128)])
  case first=>
   go_wp2_with (first | ((with_reducible (refine dA 109 (.tmp 9) ?lx ?_));(case lx=>rfl);refine iJ rx Tryz.underlying109 rfl aU rfl (.tmp 9) rfl rfl ?_) | ((with_reducible (refine dA 109 (.tmp 11) ?lx ?_));(case lx=>rfl);refine iJ ry Tryz.underlying109 rfl aU rfl (.tmp 11) rfl rfl ?_) | (go_at_call 98;refine (HP.out _).mono ?_;rintro e w1 ⟨rfl,hb1⟩;have hL:=hL.call hb1) | ((with_reducible refine isS 109 5 13 ?_);refine iZ ((hL.add (ah ⟨0,0⟩) 109).head) (ah (P)) aU (fE _) ?_))
   go_meet;exact ⟨_,rfl,(hL.add (ah ⟨0,0⟩) 109).put (ah (P)) rfl⟩
  case rest=>
   obtain ⟨B5,rfl,hL⟩:=hcut;clear rx ry
   go_upto_region 2 with (fail)
   go_cut [6,7] from 9 to 27 (fun v6 v7 wx=>v6= .int .i64 U∧v7= .int .i64 V∧Bx w wx [(B5,ah (P),109),(w.heap.size,aT x,128),(w.heap.size+1,aT y,128)])
   case first=>
    have W2:=hide (show IntKind.i64.wrap (Nm.nC y.2.1.n*Nm.nC y.2.2.n)=V by rw [Xd];exact w2);clear Xd w2
    go_upto_region 2 with (fail)
    have zi:∀ W:World,Bx w W [(B5,ah (P),109),(w.heap.size,aT x,128),(w.heap.size+1,aT y,128)]→W.rangeAt (B5) 0 (ah (P)):=fun W h=>h.rng 0 rfl 0 _ rfl;have Ux:∀ W:World,Bx w W [(B5,ah (P),109),(w.heap.size,aT x,128),(w.heap.size+1,aT y,128)]→W.rangeAt (w.heap.size) 4 (ah (x.2.1)):=fun W h=>h.rng 1 rfl 4 _ rfl;have Uy:∀ W:World,Bx w W [(B5,ah (P),109),(w.heap.size,aT x,128),(w.heap.size+1,aT y,128)]→W.rangeAt (w.heap.size) 8 (ah (x.2.2)):=fun W h=>h.rng 1 rfl 8 _ rfl;have Uz:∀ W:World,Bx w W [(B5,ah (P),109),(w.heap.size,aT x,128),(w.heap.size+1,aT y,128)]→W.rangeAt (w.heap.size+1) 4 (ah (y.2.1)):=fun W h=>h.rng 2 rfl 4 _ rfl;have UA:∀ W:World,Bx w W [(B5,ah (P),109),(w.heap.size,aT x,128),(w.heap.size+1,aT y,128)]→W.rangeAt (w.heap.size+1) 8 (ah (y.2.2)):=fun W h=>h.rng 2 rfl 8 _ rfl;have hL:=hL.drew;refine wp_region_held_drew (S:=(fun w':World=>Bx w w' [(B5,ah (P),109),(w.heap.size,aT x,128),(w.heap.size+1,aT y,128)])) (by kernel_rfl) ?bU (fun hHeld=>?_)
    case bU=>exact hL
    refine bP 0 zi Tryz.underlying109 ?_;refine aA 1 ?_;refine bP 2 Ux Tryz.underlying109 ?_;refine aA 3 ?_;refine bP 4 Uy Tryz.underlying109 ?_;refine aA 6 ?_;refine bP 7 Uz Tryz.underlying109 ?_;refine aA 9 ?_;refine bP 10 UA Tryz.underlying109 ?_;refine aB 5 fun K hK=>?_;go_simp
    (go_at_call 53;refine (HU.out _).mono ?_;rintro e w2a ⟨rfl,Iz⟩)
    have hL:=hL.call Iz;refine au hK (hL) fun hHeld=>?_;clear hK K;refine aB 8 fun K hK=>?_;go_simp
    (go_at_call 83;refine (jE y.2.1 _).mono ?_;rintro e w2b ⟨rfl,OQ⟩)
    have hL:=hL.call OQ;refine au hK (hL) fun hHeld=>?_;clear hK K;refine aB 11 fun K hK=>?_;go_simp
    (go_at_call 83;refine (jE y.2.2 _).mono ?_;rintro e w2c ⟨rfl,OT⟩)
    have hL:=hL.call OT;refine au hK (hL) fun hHeld=>?_;clear hK K;refine aA 12 ?_;refine aA 13 ?_;refine aA 14 ?_;refine wpAnyH_done (by kernel_rfl) ?_ _;go_wp2;go_meet;exact ⟨rfl,congrArg (Value.int .i64) W2.out,hL⟩
   case rest=>
    obtain ⟨rfl,rfl,hL⟩:=hcut;clear Xd w2
    by_cases huv:U=V
    rotate_left
    · have akN:(U != V)=true:=by simp [huv]
      have HS:=hide (Nr.out (by rw [EU.out,EV.out];exact huv))
      have wd:IntKind.i64.wrap (U - V)=U - V:=by rw [IntKind.wrap_i64];omega
      go_wp2
      all_goals
       go_ret;exact ⟨bG (by rw [HS.out,EU.out,EV.out];first | done | omega),hL.bw⟩
    · have akN:(U != V)=false:=by simp [huv]
      have hq:Nm.Ny x y=Nm.Td y:=by rw [EU.out,EV.out];exact huv
      have HS:=HS2.out hq;have hT:=HT.out hq;rw [EU.out] at HS;obtain ⟨⟨⟨⟨⟨⟨⟨oA,oX⟩,oB⟩,oAB⟩,oY⟩,oC⟩,oW⟩,oS⟩:=hT;have M1:=fun W=>gG P P W hP hP;have M2:=fun W=>gG x.2.1 x.2.1 W x2 x2;have M3:=fun W=>gG (Nm.RX x) x.2.2 W oX x3;have M4:=fun W=>pY (Nm.YT x y) (Nm.Nw x) W oA oB;have M5:=fun W=>gG y.2.1 y.2.1 W y2 y2;have M6:=fun W=>gG (Nm.RX y) y.2.2 W oY y3;have M7:=fun W=>lQ (Nm.ML x y) (Nm.Nw y) W oAB oC;have M8:=fun W=>gG ⟨2,1⟩ P W rfl hP;have M9:=fun W=>gG (Nm.YU x y) x.2.1 W oW x2;have HS2:=fun W=>xG (Nm.Yn x y) (Nm.Yo x y) x.2.2 W oS;have c3:=yG (Nm.Yn x y) (Nm.Yo x y) x.2.2;have wd:=wrap_one (lZ c1 c3)
      have eA:Nm.mul P P=Nm.YT x y:=by rw [← EP.out];rfl
      have eX:Nm.mul x.2.1 x.2.1=Nm.RX x:=rfl;have eB:Nm.mul (Nm.RX x) x.2.2=Nm.Nw x:=rfl;have eAB:Nm.add (Nm.YT x y) (Nm.Nw x)=Nm.ML x y:=rfl;have eY:Nm.mul y.2.1 y.2.1=Nm.RX y:=rfl;have eC:Nm.mul (Nm.RX y) y.2.2=Nm.Nw y:=rfl;have eR:Nm.sub (Nm.ML x y) (Nm.Nw y)=Nm.Yn x y:=rfl
      have eW:Nm.mul ⟨2,1⟩ P=Nm.YU x y:=by rw [← EP.out];rfl
      have eT:Nm.mul (Nm.YU x y) x.2.1=Nm.Yo x y:=rfl
      simp only [eA,eX,eB,eAB,eY,eC,eR,eW,eT] at M1 M2 M3 M4 M5 M6 M7 M8 M9
      clear eA eX eB eAB eY eC eR eW eT oA oX oB oAB oY oC oW oS hq huv c3;obtain ⟨A,hA⟩:∃ q,Nm.YT x y=q:=⟨_,rfl⟩
      simp only [hA] at M1 M4
      obtain ⟨Xq,hXq⟩:∃ q,Nm.RX x=q:=⟨_,rfl⟩
      simp only [hXq] at M2 M3
      obtain ⟨Bq,hBq⟩:∃ q,Nm.Nw x=q:=⟨_,rfl⟩
      simp only [hBq] at M3 M4
      obtain ⟨AB,hAB⟩:∃ q,Nm.ML x y=q:=⟨_,rfl⟩
      simp only [hAB] at M4 M7
      obtain ⟨Yq,hYq⟩:∃ q,Nm.RX y=q:=⟨_,rfl⟩
      simp only [hYq] at M5 M6
      obtain ⟨Cq,hCq⟩:∃ q,Nm.Nw y=q:=⟨_,rfl⟩
      simp only [hCq] at M6 M7
      obtain ⟨Rv,hRv⟩:∃ q,Nm.Yn x y=q:=⟨_,rfl⟩
      simp only [hRv] at M7 HS2 HS wd
      obtain ⟨Wv,hWv⟩:∃ q,Nm.YU x y=q:=⟨_,rfl⟩
      simp only [hWv] at M8 M9
      obtain ⟨Tv,hTv⟩:∃ q,Nm.Yo x y=q:=⟨_,rfl⟩
      simp only [hTv] at M9 HS2 HS wd
      obtain ⟨Sv,hSv⟩:∃ q,Nm.pG Rv Tv x.2.2=q:=⟨_,rfl⟩
      simp only [hSv] at HS2 HS wd
      clear hA hXq hBq hAB hYq hCq hRv hWv hTv hSv;have M1:=hide M1;have M2:=hide M2;have M3:=hide M3;have M4:=hide M4;have M5:=hide M5;have M6:=hide M6;have M7:=hide M7;have M8:=hide M8;have M9:=hide M9;have HS2:=hide HS2;have HS:=hide HS
      go_upto_region 5 with (fail)
      go_cut [8] from 35 to 56 (fun v8 wx=>∃ B8,v8=ptr B8∧Bx w wx [(B8,ah (Rv),109),(B5,ah (P),109),(w.heap.size,aT x,128),(w.heap.size+1,aT y,128)])
      case first=>
       have J8:∀ W:World,Bx w W [(B5,ah (P),109),(w.heap.size,aT x,128),(w.heap.size+1,aT y,128)]→W.rangeAt (B5) 0 (ah (P)):=fun W h=>h.rng 0 rfl 0 _ rfl;have J9:∀ W:World,Bx w W [(B5,ah (P),109),(w.heap.size,aT x,128),(w.heap.size+1,aT y,128)]→W.rangeAt (w.heap.size) 4 (ah (x.2.1)):=fun W h=>h.rng 1 rfl 4 _ rfl;have UC:∀ W:World,Bx w W [(B5,ah (P),109),(w.heap.size,aT x,128),(w.heap.size+1,aT y,128)]→W.rangeAt (w.heap.size) 8 (ah (x.2.2)):=fun W h=>h.rng 1 rfl 8 _ rfl;have Ko:∀ W:World,Bx w W [(B5,ah (P),109),(w.heap.size,aT x,128),(w.heap.size+1,aT y,128)]→W.rangeAt (w.heap.size+1) 4 (ah (y.2.1)):=fun W h=>h.rng 2 rfl 4 _ rfl;have UD:∀ W:World,Bx w W [(B5,ah (P),109),(w.heap.size,aT x,128),(w.heap.size+1,aT y,128)]→W.rangeAt (w.heap.size+1) 8 (ah (y.2.2)):=fun W h=>h.rng 2 rfl 8 _ rfl;have hL:=hL.drew;refine wp_region_held_drew (S:=(fun w':World=>Bx w w' [(B5,ah (P),109),(w.heap.size,aT x,128),(w.heap.size+1,aT y,128)])) (by kernel_rfl) ?cu (fun hHeld=>?_)
       case cu=>exact hL
       refine bP 0 J8 Tryz.underlying109 ?_;refine bP 1 J8 Tryz.underlying109 ?_;refine aA 3 ?_;refine bP 4 J9 Tryz.underlying109 ?_;refine aA 5 ?_;refine bP 6 J9 Tryz.underlying109 ?_;refine aA 8 ?_;refine bP 9 UC Tryz.underlying109 ?_;refine aA 12 ?_;refine bP 13 Ko Tryz.underlying109 ?_;refine aA 14 ?_;refine bP 15 Ko Tryz.underlying109 ?_;refine aA 17 ?_;refine bP 18 UD Tryz.underlying109 ?_;refine iF 2 21 (fun K hK=>?_) fun K hK=>?_
       · go_simp
         (go_at_call 97;refine (M1.out _).mono ?_;rintro e w5a ⟨rfl,Xg⟩)
         have hL:=hL.call Xg;refine au hK (by first | exact hL | exact hL.tail) fun hHeld=>?_;clear hK K;refine iF 7 21 (fun K hK=>?_) fun K hK=>?_
         · go_simp
           (go_at_call 97;refine (M2.out _).mono ?_;rintro e w5b ⟨rfl,IB⟩)
           have hL:=hL.call IB;refine au hK (by first | exact hL | exact hL.tail) fun hHeld=>?_;clear hK K;refine iF 10 21 (fun K hK=>?_) fun K hK=>?_
           · go_simp
             (go_at_call 97;refine (M3.out _).mono ?_;rintro e w5c ⟨rfl,IC⟩)
             have hL:=hL.call IC;refine au hK (by first | exact hL | exact hL.tail) fun hHeld=>?_;clear hK K;refine iF 11 21 (fun K hK=>?_) fun K hK=>?_
             · go_simp
               (go_at_call 86;refine (M4.out _).mono ?_;rintro e w5d ⟨rfl,DW⟩)
               have hL:=hL.call DW;refine au hK (by first | exact hL | exact hL.tail) fun hHeld=>?_;clear hK K;refine iF 16 21 (fun K hK=>?_) fun K hK=>?_
               · go_simp
                 (go_at_call 97;refine (M5.out _).mono ?_;rintro e w5e ⟨rfl,zL⟩)
                 have hL:=hL.call zL;refine au hK (by first | exact hL | exact hL.tail) fun hHeld=>?_;clear hK K;refine iF 19 21 (fun K hK=>?_) fun K hK=>?_
                 · go_simp
                   (go_at_call 97;refine (M6.out _).mono ?_;rintro e YX ⟨rfl,wP⟩)
                   have hL:=hL.call wP;refine au hK (by first | exact hL | exact hL.tail) fun hHeld=>?_;clear hK K;refine iF 20 21 (fun K hK=>?_) fun K hK=>?_
                   · go_simp
                     (go_at_call 98;refine (M7.out _).mono ?_;rintro e YB ⟨rfl,uw⟩)
                     have hL:=hL.call uw;refine au hK (by first | exact hL | exact hL.tail) fun hHeld=>?_;clear hK K;refine aB 21 fun K hK=>?_;go_simp;have hL:=hL.add (ah ⟨0,0⟩) 109;refine au hK (hL.tail) fun hHeld=>?_;clear hK K;refine aB 22 fun K hK=>?_;refine aG hL.head (ah (Rv)) rfl aU (fE _) (.tmp 8) (.tmp 55) rfl rfl rfl ?_;have hL:=hL.put (ah (Rv)) rfl;refine au hK (hL.tail) fun hHeld=>?_;clear hK K;refine wpAnyH_done (by kernel_rfl) ?_ _;go_wp2;go_meet;exact ⟨_,rfl,hL⟩
                   · go_simp
                     have hL:=hL.add (ah ⟨0,0⟩) 109;refine au hK (hL.tail) fun hHeld=>?_;clear hK K;refine aB 20 fun K hK=>?_;go_simp
                     (go_at_call 98;refine (M7.out _).mono ?_;rintro e YB ⟨rfl,uw⟩)
                     have hL:=hL.call uw;refine au hK (by first | exact hL | exact hL.tail) fun hHeld=>?_;clear hK K;refine aB 22 fun K hK=>?_;refine aG hL.head (ah (Rv)) rfl aU (fE _) (.tmp 8) (.tmp 55) rfl rfl rfl ?_;have hL:=hL.put (ah (Rv)) rfl;refine au hK (hL.tail) fun hHeld=>?_;clear hK K;refine wpAnyH_done (by kernel_rfl) ?_ _;go_wp2;go_meet;exact ⟨_,rfl,hL⟩
                 · go_simp
                   have hL:=hL.add (ah ⟨0,0⟩) 109;refine au hK (hL.tail) fun hHeld=>?_;clear hK K;refine aB 19 fun K hK=>?_;go_simp
                   (go_at_call 97;refine (M6.out _).mono ?_;rintro e YX ⟨rfl,wP⟩)
                   have hL:=hL.call wP;refine au hK (by first | exact hL | exact hL.tail) fun hHeld=>?_;clear hK K;refine aB 20 fun K hK=>?_;go_simp
                   (go_at_call 98;refine (M7.out _).mono ?_;rintro e YB ⟨rfl,uw⟩)
                   have hL:=hL.call uw;refine au hK (by first | exact hL | exact hL.tail) fun hHeld=>?_;clear hK K;refine aB 22 fun K hK=>?_;refine aG hL.head (ah (Rv)) rfl aU (fE _) (.tmp 8) (.tmp 55) rfl rfl rfl ?_;have hL:=hL.put (ah (Rv)) rfl;refine au hK (hL.tail) fun hHeld=>?_;clear hK K;refine wpAnyH_done (by kernel_rfl) ?_ _;go_wp2;go_meet;exact ⟨_,rfl,hL⟩
               · go_simp
                 have hL:=hL.add (ah ⟨0,0⟩) 109;refine au hK (hL.tail) fun hHeld=>?_;clear hK K;refine aB 16 fun K hK=>?_;go_simp
                 (go_at_call 97;refine (M5.out _).mono ?_;rintro e w5e ⟨rfl,zL⟩)
                 have hL:=hL.call zL;refine au hK (by first | exact hL | exact hL.tail) fun hHeld=>?_;clear hK K;refine aB 19 fun K hK=>?_;go_simp
                 (go_at_call 97;refine (M6.out _).mono ?_;rintro e YX ⟨rfl,wP⟩)
                 have hL:=hL.call wP;refine au hK (by first | exact hL | exact hL.tail) fun hHeld=>?_;clear hK K;refine aB 20 fun K hK=>?_;go_simp
                 (go_at_call 98;refine (M7.out _).mono ?_;rintro e YB ⟨rfl,uw⟩)
                 have hL:=hL.call uw;refine au hK (by first | exact hL | exact hL.tail) fun hHeld=>?_;clear hK K;refine aB 22 fun K hK=>?_;refine aG hL.head (ah (Rv)) rfl aU (fE _) (.tmp 8) (.tmp 55) rfl rfl rfl ?_;have hL:=hL.put (ah (Rv)) rfl;refine au hK (hL.tail) fun hHeld=>?_;clear hK K;refine wpAnyH_done (by kernel_rfl) ?_ _;go_wp2;go_meet;exact ⟨_,rfl,hL⟩
             · go_simp
               have hL:=hL.add (ah ⟨0,0⟩) 109;refine au hK (hL.tail) fun hHeld=>?_;clear hK K;refine aB 11 fun K hK=>?_;go_simp
               (go_at_call 86;refine (M4.out _).mono ?_;rintro e w5d ⟨rfl,DW⟩)
               have hL:=hL.call DW;refine au hK (by first | exact hL | exact hL.tail) fun hHeld=>?_;clear hK K;refine aB 16 fun K hK=>?_;go_simp
               (go_at_call 97;refine (M5.out _).mono ?_;rintro e w5e ⟨rfl,zL⟩)
               have hL:=hL.call zL;refine au hK (by first | exact hL | exact hL.tail) fun hHeld=>?_;clear hK K;refine aB 19 fun K hK=>?_;go_simp
               (go_at_call 97;refine (M6.out _).mono ?_;rintro e YX ⟨rfl,wP⟩)
               have hL:=hL.call wP;refine au hK (by first | exact hL | exact hL.tail) fun hHeld=>?_;clear hK K;refine aB 20 fun K hK=>?_;go_simp
               (go_at_call 98;refine (M7.out _).mono ?_;rintro e YB ⟨rfl,uw⟩)
               have hL:=hL.call uw;refine au hK (by first | exact hL | exact hL.tail) fun hHeld=>?_;clear hK K;refine aB 22 fun K hK=>?_;refine aG hL.head (ah (Rv)) rfl aU (fE _) (.tmp 8) (.tmp 55) rfl rfl rfl ?_;have hL:=hL.put (ah (Rv)) rfl;refine au hK (hL.tail) fun hHeld=>?_;clear hK K;refine wpAnyH_done (by kernel_rfl) ?_ _;go_wp2;go_meet;exact ⟨_,rfl,hL⟩
           · go_simp
             have hL:=hL.add (ah ⟨0,0⟩) 109;refine au hK (hL.tail) fun hHeld=>?_;clear hK K;refine aB 10 fun K hK=>?_;go_simp
             (go_at_call 97;refine (M3.out _).mono ?_;rintro e w5c ⟨rfl,IC⟩)
             have hL:=hL.call IC;refine au hK (by first | exact hL | exact hL.tail) fun hHeld=>?_;clear hK K;refine aB 11 fun K hK=>?_;go_simp
             (go_at_call 86;refine (M4.out _).mono ?_;rintro e w5d ⟨rfl,DW⟩)
             have hL:=hL.call DW;refine au hK (by first | exact hL | exact hL.tail) fun hHeld=>?_;clear hK K;refine aB 16 fun K hK=>?_;go_simp
             (go_at_call 97;refine (M5.out _).mono ?_;rintro e w5e ⟨rfl,zL⟩)
             have hL:=hL.call zL;refine au hK (by first | exact hL | exact hL.tail) fun hHeld=>?_;clear hK K;refine aB 19 fun K hK=>?_;go_simp
             (go_at_call 97;refine (M6.out _).mono ?_;rintro e YX ⟨rfl,wP⟩)
             have hL:=hL.call wP;refine au hK (by first | exact hL | exact hL.tail) fun hHeld=>?_;clear hK K;refine aB 20 fun K hK=>?_;go_simp
             (go_at_call 98;refine (M7.out _).mono ?_;rintro e YB ⟨rfl,uw⟩)
             have hL:=hL.call uw;refine au hK (by first | exact hL | exact hL.tail) fun hHeld=>?_;clear hK K;refine aB 22 fun K hK=>?_;refine aG hL.head (ah (Rv)) rfl aU (fE _) (.tmp 8) (.tmp 55) rfl rfl rfl ?_;have hL:=hL.put (ah (Rv)) rfl;refine au hK (hL.tail) fun hHeld=>?_;clear hK K;refine wpAnyH_done (by kernel_rfl) ?_ _;go_wp2;go_meet;exact ⟨_,rfl,hL⟩
         · go_simp
           have hL:=hL.add (ah ⟨0,0⟩) 109;refine au hK (hL.tail) fun hHeld=>?_;clear hK K;refine aB 7 fun K hK=>?_;go_simp
           (go_at_call 97;refine (M2.out _).mono ?_;rintro e w5b ⟨rfl,IB⟩)
           have hL:=hL.call IB;refine au hK (by first | exact hL | exact hL.tail) fun hHeld=>?_;clear hK K;refine aB 10 fun K hK=>?_;go_simp
           (go_at_call 97;refine (M3.out _).mono ?_;rintro e w5c ⟨rfl,IC⟩)
           have hL:=hL.call IC;refine au hK (by first | exact hL | exact hL.tail) fun hHeld=>?_;clear hK K;refine aB 11 fun K hK=>?_;go_simp
           (go_at_call 86;refine (M4.out _).mono ?_;rintro e w5d ⟨rfl,DW⟩)
           have hL:=hL.call DW;refine au hK (by first | exact hL | exact hL.tail) fun hHeld=>?_;clear hK K;refine aB 16 fun K hK=>?_;go_simp
           (go_at_call 97;refine (M5.out _).mono ?_;rintro e w5e ⟨rfl,zL⟩)
           have hL:=hL.call zL;refine au hK (by first | exact hL | exact hL.tail) fun hHeld=>?_;clear hK K;refine aB 19 fun K hK=>?_;go_simp
           (go_at_call 97;refine (M6.out _).mono ?_;rintro e YX ⟨rfl,wP⟩)
           have hL:=hL.call wP;refine au hK (by first | exact hL | exact hL.tail) fun hHeld=>?_;clear hK K;refine aB 20 fun K hK=>?_;go_simp
           (go_at_call 98;refine (M7.out _).mono ?_;rintro e YB ⟨rfl,uw⟩)
           have hL:=hL.call uw;refine au hK (by first | exact hL | exact hL.tail) fun hHeld=>?_;clear hK K;refine aB 22 fun K hK=>?_;refine aG hL.head (ah (Rv)) rfl aU (fE _) (.tmp 8) (.tmp 55) rfl rfl rfl ?_;have hL:=hL.put (ah (Rv)) rfl;refine au hK (hL.tail) fun hHeld=>?_;clear hK K;refine wpAnyH_done (by kernel_rfl) ?_ _;go_wp2;go_meet;exact ⟨_,rfl,hL⟩
       · go_simp
         have hL:=hL.add (ah ⟨0,0⟩) 109;refine au hK (hL.tail) fun hHeld=>?_;clear hK K;refine aB 2 fun K hK=>?_;go_simp
         (go_at_call 97;refine (M1.out _).mono ?_;rintro e w5a ⟨rfl,Xg⟩)
         have hL:=hL.call Xg;refine au hK (by first | exact hL | exact hL.tail) fun hHeld=>?_;clear hK K;refine aB 7 fun K hK=>?_;go_simp
         (go_at_call 97;refine (M2.out _).mono ?_;rintro e w5b ⟨rfl,IB⟩)
         have hL:=hL.call IB;refine au hK (by first | exact hL | exact hL.tail) fun hHeld=>?_;clear hK K;refine aB 10 fun K hK=>?_;go_simp
         (go_at_call 97;refine (M3.out _).mono ?_;rintro e w5c ⟨rfl,IC⟩)
         have hL:=hL.call IC;refine au hK (by first | exact hL | exact hL.tail) fun hHeld=>?_;clear hK K;refine aB 11 fun K hK=>?_;go_simp
         (go_at_call 86;refine (M4.out _).mono ?_;rintro e w5d ⟨rfl,DW⟩)
         have hL:=hL.call DW;refine au hK (by first | exact hL | exact hL.tail) fun hHeld=>?_;clear hK K;refine aB 16 fun K hK=>?_;go_simp
         (go_at_call 97;refine (M5.out _).mono ?_;rintro e w5e ⟨rfl,zL⟩)
         have hL:=hL.call zL;refine au hK (by first | exact hL | exact hL.tail) fun hHeld=>?_;clear hK K;refine aB 19 fun K hK=>?_;go_simp
         (go_at_call 97;refine (M6.out _).mono ?_;rintro e YX ⟨rfl,wP⟩)
         have hL:=hL.call wP;refine au hK (by first | exact hL | exact hL.tail) fun hHeld=>?_;clear hK K;refine aB 20 fun K hK=>?_;go_simp
         (go_at_call 98;refine (M7.out _).mono ?_;rintro e YB ⟨rfl,uw⟩)
         have hL:=hL.call uw;refine au hK (by first | exact hL | exact hL.tail) fun hHeld=>?_;clear hK K;refine aB 22 fun K hK=>?_;refine aG hL.head (ah (Rv)) rfl aU (fE _) (.tmp 8) (.tmp 55) rfl rfl rfl ?_;have hL:=hL.put (ah (Rv)) rfl;refine au hK (hL.tail) fun hHeld=>?_;clear hK K;refine wpAnyH_done (by kernel_rfl) ?_ _;go_wp2;go_meet;exact ⟨_,rfl,hL⟩
      case rest=>
       obtain ⟨B8,rfl,hL⟩:=hcut
       go_upto_region 6 with (fail)
       have UE:∀ W:World,Bx w W [(B8,ah (Rv),109),(B5,ah (P),109),(w.heap.size,aT x,128),(w.heap.size+1,aT y,128)]→W.rangeAt (B8) 0 (ah (Rv)):=fun W h=>h.rng 0 rfl 0 _ rfl;have UF:∀ W:World,Bx w W [(B8,ah (Rv),109),(B5,ah (P),109),(w.heap.size,aT x,128),(w.heap.size+1,aT y,128)]→W.rangeAt (B5) 0 (ah (P)):=fun W h=>h.rng 1 rfl 0 _ rfl;have UG:∀ W:World,Bx w W [(B8,ah (Rv),109),(B5,ah (P),109),(w.heap.size,aT x,128),(w.heap.size+1,aT y,128)]→W.rangeAt (w.heap.size) 4 (ah (x.2.1)):=fun W h=>h.rng 2 rfl 4 _ rfl;have UH:∀ W:World,Bx w W [(B8,ah (Rv),109),(B5,ah (P),109),(w.heap.size,aT x,128),(w.heap.size+1,aT y,128)]→W.rangeAt (w.heap.size) 8 (ah (x.2.2)):=fun W h=>h.rng 2 rfl 8 _ rfl;have hL:=hL.drew;refine wp_region_held_drew (S:=(fun w':World=>Bx w w' [(B8,ah (Rv),109),(B5,ah (P),109),(w.heap.size,aT x,128),(w.heap.size+1,aT y,128)])) (by kernel_rfl) ?dF (fun hHeld=>?_)
       case dF=>exact hL
       refine aA 0 ?_;refine bP 1 UE Tryz.underlying109 ?_;refine bP 3 UF Tryz.underlying109 ?_;refine aA 5 ?_;refine bP 6 UG Tryz.underlying109 ?_;refine aA 8 ?_;refine bP 9 UH Tryz.underlying109 ?_;refine aB 2 fun K hK=>?_;go_simp
       (go_at_call 100;refine (f_any 2 _).mono ?_;rintro e YZ ⟨rfl,wQ⟩)
       have hL:=hL.call wQ;refine au hK (hL) fun hHeld=>?_;clear hK K;refine aB 4 fun K hK=>?_;go_simp
       (go_at_call 97;refine (M8.out _).mono ?_;rintro e w6b ⟨rfl,DX⟩)
       have hL:=hL.call DX;refine au hK (hL) fun hHeld=>?_;clear hK K;refine aB 7 fun K hK=>?_;go_simp
       (go_at_call 97;refine (M9.out _).mono ?_;rintro e w6c ⟨rfl,Xh⟩)
       have hL:=hL.call Xh;refine au hK (hL) fun hHeld=>?_;clear hK K;refine aB 10 fun K hK=>?_;go_simp
       (go_at_call 53;refine (HS2.out _).mono ?_;rintro e w6d ⟨rfl,aiP⟩)
       have hL:=hL.call aiP;refine au hK (hL) fun hHeld=>?_;clear hK K;refine aA 11 ?_;refine aA 12 ?_;refine wpAnyH_done (by kernel_rfl) ?_ _;go_wp2;go_ret;exact ⟨bG HS.out.symm,hL.bw⟩
abbrev Nm.JL:=Nm.nM × Nm.nM
@[reducible] def gpV (g:Nm.JL):Value:= .agg #[.int .i64 g.1.1.n,.slice none 0 0,.int .i64 g.1.1.d,.slice none 0 0,.int .i64 g.1.2.1.n,.slice none 0 0,.int .i64 g.1.2.1.d,.slice none 0 0,.int .i64 g.1.2.2.n,.slice none 0 0,.int .i64 g.1.2.2.d,.slice none 0 0,.int .i64 g.2.1.n,.slice none 0 0,.int .i64 g.2.1.d,.slice none 0 0,.int .i64 g.2.2.1.n,.slice none 0 0,.int .i64 g.2.2.1.d,.slice none 0 0,.int .i64 g.2.2.2.n,.slice none 0 0,.int .i64 g.2.2.2.d,.slice none 0 0,.bool false]
def dV (g:Nm.JL):List Value:=[.int .i64 g.1.1.n,.slice none 0 0,.int .i64 g.1.1.d,.slice none 0 0,.int .i64 g.1.2.1.n,.slice none 0 0,.int .i64 g.1.2.1.d,.slice none 0 0,.int .i64 g.1.2.2.n,.slice none 0 0,.int .i64 g.1.2.2.d,.slice none 0 0,.int .i64 g.2.1.n,.slice none 0 0,.int .i64 g.2.1.d,.slice none 0 0,.int .i64 g.2.2.1.n,.slice none 0 0,.int .i64 g.2.2.1.d,.slice none 0 0,.int .i64 g.2.2.2.n,.slice none 0 0,.int .i64 g.2.2.2.d,.slice none 0 0,.bool false]
theorem Ir (g:Nm.JL):∀ v∈dV g,v.oneCell'=true:=by simp [dV,Value.oneCell']
theorem nZ:(Tryz.prog.info? 130).map (·.size)=some 25:=by kernel_rfl
theorem Ac (a b:ByteArray):∀ v∈[Value.string a,.string b],v.oneCell'=true:=by simp [Value.oneCell']
def Nm.has (g:Nm.JL) (x:Nm.nM):Bool:=decide (Nm.Es g.1 x<0) && decide (Nm.Es x g.2<0)
def Nm.OJ (x:Nm.nM) (g:Nm.JL):Bool:=Nm.Vm g.1 x && Nm.Vm x g.2
theorem MP (g:Nm.JL) (x:Nm.nM) (w:World) (h:Nm.OJ x g=true):Calls Tryz.prog 104 #[gpV g,sdV x] w fun e w'=>e= .returned (.bool (Nm.has g x))∧Below w.heap.size w w':=by
 obtain ⟨h1,h2⟩:=Bool.and_eq_true_iff.1 h;have C1:=fun W=>GH g.1 x W h1;have C2:=fun W=>GH x g.2 W h2
 unfold Nm.has
 obtain ⟨a,ha⟩:∃ q,Nm.Es g.1 x=q:=⟨_,rfl⟩;obtain ⟨b,hb⟩:∃ q,Nm.Es x g.2=q:=⟨_,rfl⟩
 simp only [ha] at C1 ⊢
 simp only [hb] at C2 ⊢
 clear ha hb h h1 h2;have C1:=hide C1;have C2:=hide C2
 by_cases n1:a<0
 · have m1:decide (a<0)=true:=decide_eq_true n1
   have m2:decide (b<0)=decide (b<0):=rfl;clear n1;rw [m1];obtain ⟨q,hq⟩:∃ q,decide (b<0)=q:=⟨_,rfl⟩;clear m2
   go_enter Tryz.func104,Tryz.ntmps104
   go_upto_region 0 with (fail)
   go_cut [2,3] (fun v2 v3 wx=>v2=ptr (w.heap.size)∧v3=ptr (w.heap.size+1)∧Bx w wx [(w.heap.size,dV g,130),(w.heap.size+1,aT x,128)])
   case first=>
    go_wp2;go_meet;exact ⟨rfl,rfl,Bx.of (((aC.nil w).new (by simp) (dV g) 130).new (by simp) (aT x) 128) _ rfl⟩
   case rest=>
    obtain ⟨rfl,rfl,hL⟩:=hcut;have k24:=(hL.get 0 rfl).cell (j:=24) rfl;have tok:=hide True.intro
    go_wp2_with (first | ((with_reducible refine dh 128 9 ?_);refine nI (hL.rn 0 0 (aT g.1)) Tryz.underlying128 gQ ?_) | ((with_reducible refine iV 128 9 ?_);refine nJ (hL.rn 0 0 (aT g.1)) Tryz.underlying128 gQ ?_) | ((with_reducible refine dh 128 3 ?_);refine nI (hL.rn 1 0 (aT x)) Tryz.underlying128 gQ ?_) | ((with_reducible refine iV 128 3 ?_);refine nJ (hL.rn 1 0 (aT x)) Tryz.underlying128 gQ ?_) | ((with_reducible refine dh 128 17 ?_);refine nI (hL.rn 0 12 (aT g.2)) Tryz.underlying128 gQ ?_) | ((with_reducible refine iV 128 17 ?_);refine nJ (hL.rn 0 12 (aT g.2)) Tryz.underlying128 gQ ?_) | (clear tok;go_at_call 55;refine (C1.out _).mono ?_;rintro e w1 ⟨rfl,hb1⟩;have hL:=hL.call hb1) | (go_at_call 55;refine (C2.out _).mono ?_;rintro e w2 ⟨rfl,hb2⟩;have hL:=hL.call hb2))
    go_ret;exact ⟨aI (by rw [← hq];simp),hL.bw⟩
 · have m1:decide (a<0)=false:=decide_eq_false n1
   clear n1;rw [m1]
   go_enter Tryz.func104,Tryz.ntmps104
   go_upto_region 0 with (fail)
   go_cut [2,3] (fun v2 v3 wx=>v2=ptr (w.heap.size)∧v3=ptr (w.heap.size+1)∧Bx w wx [(w.heap.size,dV g,130),(w.heap.size+1,aT x,128)])
   case first=>
    go_wp2;go_meet;exact ⟨rfl,rfl,Bx.of (((aC.nil w).new (by simp) (dV g) 130).new (by simp) (aT x) 128) _ rfl⟩
   case rest=>
    obtain ⟨rfl,rfl,hL⟩:=hcut;have k24:=(hL.get 0 rfl).cell (j:=24) rfl;have tok:=hide True.intro
    go_wp2_with (first | ((with_reducible refine dh 128 9 ?_);refine nI (hL.rn 0 0 (aT g.1)) Tryz.underlying128 gQ ?_) | ((with_reducible refine iV 128 9 ?_);refine nJ (hL.rn 0 0 (aT g.1)) Tryz.underlying128 gQ ?_) | ((with_reducible refine dh 128 3 ?_);refine nI (hL.rn 1 0 (aT x)) Tryz.underlying128 gQ ?_) | ((with_reducible refine iV 128 3 ?_);refine nJ (hL.rn 1 0 (aT x)) Tryz.underlying128 gQ ?_) | ((with_reducible refine dh 128 17 ?_);refine nI (hL.rn 0 12 (aT g.2)) Tryz.underlying128 gQ ?_) | ((with_reducible refine iV 128 17 ?_);refine nJ (hL.rn 0 12 (aT g.2)) Tryz.underlying128 gQ ?_) | (clear tok;go_at_call 55;refine (C1.out _).mono ?_;rintro e w1 ⟨rfl,hb1⟩;have hL:=hL.call hb1) | (go_at_call 55;refine (C2.out _).mono ?_;rintro e w2 ⟨rfl,hb2⟩;have hL:=hL.call hb2))
    go_ret;exact ⟨aI (by simp),hL.bw⟩
theorem GN (g:Nm.JL) (x:Nm.nM) (Bx0:Nat) (w:World) (hx:Held w Bx0 (aT x) 128) (h:Nm.OJ x g=true):Calls Tryz.prog 103 #[gpV g,ptr Bx0] w fun e w'=>e= .returned (.bool (Nm.has g x))∧Below w.heap.size w w':=by
 have HH:=hide (fun W=>MP g x W h)
 go_enter Tryz.func103,Tryz.ntmps103
 go_upto_region 0 with (fail)
 go_cut [2,3] (fun v2 v3 wx=>v2=ptr (w.heap.size)∧v3= .bool false∧Bx w wx [(w.heap.size,dV g,130)])
 case first=>
  go_wp2;go_meet;exact ⟨rfl,rfl,Bx.of ((aC.nil w).new (by simp) (dV g) 130) _ rfl⟩
 case rest=>
  obtain ⟨rfl,rfl,hL⟩:=hcut;have hx1:=hx.below hL.bw
  go_wp2_with (first | ((with_reducible refine dh 130 2 ?_);refine nI (hL.rn 0 0 (dV g)) Tryz.underlying130 nZ ?_) | ((with_reducible refine iV 130 2 ?_);refine nJ (hL.rn 0 0 (dV g)) Tryz.underlying130 nZ ?_) | ((with_reducible refine dh 128 1 ?_);refine dO (hx1) Tryz.underlying128 gQ ?_) | (go_at_call 104;refine (HH.out _).mono ?_;rintro e w1 ⟨rfl,hb1⟩;have hL:=hL.call hb1))
  go_ret;exact ⟨rfl,hL.bw⟩
def xO {α:Type} (enc:α→List Value) (g:Nat) (lb:Array Value) (l:List α) (p:α→Bool) (w:World):Prop:=
 (∀ args w,(callFunc g args).run Tryz.prog w= .ok (.enter g args) w)∧∀ W x,x∈l→Below w.heap.size w W→Calls Tryz.prog g (#[.agg (enc x).toArray]++lb) W fun e w'=>e= .returned (.bool (p x))∧Below w.heap.size w w'
theorem Ar {α:Type} {l:List α} {p:α→Bool} {k:Nat} (hk:k<l.length) (h:(l.take k).any p=false) (hx:p l[k]=false):(l.take (k+1)).any p=false:=by
 rw [List.take_succ_eq_append_getElem hk,List.any_append,h];simp [hx]
theorem Dc {α:Type} {l:List α} {p:α→Bool} {k:Nat} (hk:k<l.length) (hx:p l[k]=true):l.any p=true:=
 List.any_eq_true.2 ⟨l[k],List.getElem_mem hk,hx⟩
theorem Iq (S:Nat→Prop) (A:Option Addr) (c:Nat) (l:List Nm.JL) (g:Nat) (lb:Array Value) (p:Nm.JL→Bool) (w:World) (h:Reads w S 25 A l.length c (l.flatMap dV)) (hg:xO dV g lb l p w):
 Calls Tryz.prog 171 #[.slice A l.length c,.func (.func g) #[] lb] w fun e w'=>(∃ i:Int,e= .returned (.int .i64 i)∧decide (0≤i)=l.any p)∧Below w.heap.size w w':=by
 obtain ⟨b1,b2,b3⟩:=h.bd;obtain ⟨eg,hq⟩:=hg
 go_enter Tryz.func171,Tryz.ntmps171
 go_wp2
 go_loopw [8] (fun i wr=>∃ k:Nat,k≤l.length∧i= .int .i64 k∧Aside ((l.take k).any p=false)∧Aside (Below w.heap.size w wr)) (fun i _=>l.length - (intOf i).toNat)
 case atStart=>exact ⟨0,Nat.zero_le _,rfl,by simp [Aside],Below.refl _ _⟩
 case round=>
  obtain ⟨k,hk,rfl,hall,hbw⟩:=hrel
  by_cases hlt:k<l.length
  · obtain ⟨b,o,rfl,_,hbl,hc⟩:=Reads.at_ h (by omega)
    have hrg:wr.rangeAt b (o+k*25) (dV l[k]):=fun j v hj=>by
     have h2:=hc _ _ (xw (f:=dV) (n:=25) (fun _=>rfl) k hlt (j:=j) (v:=v) hj);rw [← Nat.add_assoc] at h2;exact (hbw.out.cell (p:=⟨b,o+k*25+j,none⟩) hbl).trans h2
    have hcall:=hq wr l[k] (List.getElem_mem hlt) hbw.out;clear hc hq
    cases hp:p l[k] with
    | true=>
      rw [hp] at hcall;have HP:=hide (Dc hlt hp);clear hp
      go_wp2_with (first | ((with_reducible (refine dA 130 (.tmp 14) ?lx ?_));(case lx=>rfl);refine iJ hrg Tryz.underlying130 rfl nZ rfl (.tmp 14) rfl rfl ?_) | (go_at_fn g;refine hcall.mono ?_;rintro e w2 ⟨rfl,hb2⟩))
      go_ret;exact ⟨⟨k,rfl,by rw [HP.out];simp⟩,hb2⟩
    | false=>
      rw [hp] at hcall;have HP:=hide (Ar hlt hall.out hp);clear hp
      go_wp2_with (first | ((with_reducible (refine dA 130 (.tmp 14) ?lx ?_));(case lx=>rfl);refine iJ hrg Tryz.underlying130 rfl nZ rfl (.tmp 14) rfl rfl ?_) | (go_at_fn g;refine hcall.mono ?_;rintro e w2 ⟨rfl,hb2⟩))
      go_roundw
      case rel=>exact ⟨k+1,by omega,by go_num,HP.out,hb2⟩
      case measure=>simp [intOf];omega
  · have HA:=hide (show l.any p=false by have:=hall.out;rwa [List.take_of_length_le (by omega)] at this)
    go_wp2;go_ret;exact ⟨⟨-1,rfl,by rw [HA.out];rfl⟩,hbw.out⟩
theorem BH (S:Nat→Prop) (A:Option Addr) (c:Nat) (l:List Nm.JL) (g:Nat) (lb:Array Value) (p:Nm.JL→Bool) (w:World) (h:Reads w S 25 A l.length c (l.flatMap dV)) (hg:xO dV g lb l p w):
 Calls Tryz.prog 102 #[.slice A l.length c,.func (.func g) #[] lb] w fun e w'=>e= .returned (.bool (l.any p))∧Below w.heap.size w w':=by
 have HI:=hide (Iq S A c l g lb p w h hg)
 go_enter Tryz.func102,Tryz.ntmps102
 go_wp2_with (go_at_call 171;refine HI.out.mono ?_;rintro e w1 ⟨⟨i,rfl,hi⟩,hb1⟩)
 go_ret;exact ⟨aI (by first | rfl | exact hi),hb1⟩
abbrev Nm.Pl:=ByteArray × ByteArray
def jl (p:Nm.Pl):List Value:=[.string p.1,.string p.2]
@[reducible] def plV (p:Nm.Pl):Value:= .agg #[.string p.1,.string p.2]
theorem Ei (S:Nat→Prop) (A:Option Addr) (c:Nat) (l:List Nm.Pl) (g:Nat) (lb:Array Value) (p:Nm.Pl→Bool) (w:World) (h:Reads w S 2 A l.length c (l.flatMap jl)) (hg:xO jl g lb l p w):
 Calls Tryz.prog 169 #[.slice A l.length c,.func (.func g) #[] lb] w fun e w'=>(∃ i:Int,e= .returned (.int .i64 i)∧decide (0≤i)=l.any p)∧Below w.heap.size w w':=by
 obtain ⟨b1,b2,b3⟩:=h.bd;obtain ⟨eg,hq⟩:=hg
 go_enter Tryz.func169,Tryz.ntmps169
 go_wp2
 go_loopw [8] (fun i wr=>∃ k:Nat,k≤l.length∧i= .int .i64 k∧Aside ((l.take k).any p=false)∧Aside (Below w.heap.size w wr)) (fun i _=>l.length - (intOf i).toNat)
 case atStart=>exact ⟨0,Nat.zero_le _,rfl,by simp [Aside],Below.refl _ _⟩
 case round=>
  obtain ⟨k,hk,rfl,hall,hbw⟩:=hrel
  by_cases hlt:k<l.length
  · obtain ⟨b,o,rfl,_,hbl,hc⟩:=Reads.at_ h (by omega)
    have hrg:wr.rangeAt b (o+k*2) (jl l[k]):=fun j v hj=>by
     have h2:=hc _ _ (xw (f:=jl) (n:=2) (fun _=>rfl) k hlt (j:=j) (v:=v) hj);rw [← Nat.add_assoc] at h2;exact (hbw.out.cell (p:=⟨b,o+k*2+j,none⟩) hbl).trans h2
    have hcall:=hq wr l[k] (List.getElem_mem hlt) hbw.out;clear hc hq
    cases hp:p l[k] with
    | true=>
      rw [hp] at hcall;have HP:=hide (Dc hlt hp);clear hp
      go_wp2_with (first | ((with_reducible (refine dA 66 (.tmp 14) ?lx ?_));(case lx=>rfl);refine iJ hrg Tryz.underlying66 rfl nD rfl (.tmp 14) rfl rfl ?_) | (go_at_fn g;refine hcall.mono ?_;rintro e w2 ⟨rfl,hb2⟩))
      go_ret;exact ⟨⟨k,rfl,by rw [HP.out];simp⟩,hb2⟩
    | false=>
      rw [hp] at hcall;have HP:=hide (Ar hlt hall.out hp);clear hp
      go_wp2_with (first | ((with_reducible (refine dA 66 (.tmp 14) ?lx ?_));(case lx=>rfl);refine iJ hrg Tryz.underlying66 rfl nD rfl (.tmp 14) rfl rfl ?_) | (go_at_fn g;refine hcall.mono ?_;rintro e w2 ⟨rfl,hb2⟩))
      go_roundw
      case rel=>exact ⟨k+1,by omega,by go_num,HP.out,hb2⟩
      case measure=>simp [intOf];omega
  · have HA:=hide (show l.any p=false by have:=hall.out;rwa [List.take_of_length_le (by omega)] at this)
    go_wp2;go_ret;exact ⟨⟨-1,rfl,by rw [HA.out];rfl⟩,hbw.out⟩
theorem yS (S:Nat→Prop) (A:Option Addr) (c:Nat) (l:List Nm.Pl) (g:Nat) (lb:Array Value) (p:Nm.Pl→Bool) (w:World) (h:Reads w S 2 A l.length c (l.flatMap jl)) (hg:xO jl g lb l p w):
 Calls Tryz.prog 92 #[.slice A l.length c,.func (.func g) #[] lb] w fun e w'=>e= .returned (.bool (l.any p))∧Below w.heap.size w w':=by
 have HI:=hide (Ei S A c l g lb p w h hg)
 go_enter Tryz.func92,Tryz.ntmps92
 go_wp2_with (go_at_call 169;refine HI.out.mono ?_;rintro e w1 ⟨⟨i,rfl,hi⟩,hb1⟩)
 go_ret;exact ⟨aI (by first | rfl | exact hi),hb1⟩
theorem JB (S:Nat→Prop) (A:Option Addr) (c:Nat) (l:List Nm.JL) (x:Nm.nM) (w:World) (h:Reads w S 25 A l.length c (l.flatMap dV)) (hk:∀ g∈l,Nm.OJ x g=true):
 Calls Tryz.prog 54 #[.slice A l.length c,sdV x] w fun e w'=>e= .returned (.bool (!(l.any fun g=>Nm.has g x)))∧Below w.heap.size w w':=by
 obtain ⟨z,hz⟩:∃ q,(l.any fun g=>Nm.has g x)=q:=⟨_,rfl⟩;have hcon:=fun (g:Nat) (lb:Array Value) (W:World) (hr:Reads W S 25 A l.length c (l.flatMap dV)) (hs:xO dV g lb l (fun g=>Nm.has g x) W)=>BH S A c l g lb _ W hr hs
 simp only [hz] at hcon ⊢
 clear hz;have HC:=hide hcon;clear hcon
 go_enter Tryz.func54,Tryz.ntmps54
 go_upto_region 0 with (fail)
 go_cut [3,4] (fun v3 v4 wx=>v3=ptr (w.heap.size)∧v4= .bool false∧Bx w wx [(w.heap.size,aT x,128)])
 case first=>
  go_wp2;go_meet;exact ⟨rfl,rfl,Bx.of ((aC.nil w).new (by simp) (aT x) 128) _ rfl⟩
 case rest=>
  obtain ⟨rfl,rfl,hL⟩:=hcut;have hrd:=Reads.below h hL.bw;have HS:=hide (show xO dV 103 #[ptr w.heap.size] l (fun g=>Nm.has g x) wc from ⟨fun _ _=>rfl,fun W g hg hb=>(GN g x w.heap.size W ((hL.get 0 rfl).below hb) (hk g hg)).mono (fun e w' ⟨e1,e2⟩=>⟨e1,hb.trans (e2.mono hb.size)⟩)⟩);clear hk
  go_wp2_with (go_at_call 102;refine (HC.out _ _ _ hrd HS.out).mono ?_;rintro e w1 ⟨rfl,hb1⟩;have hL:=hL.call hb1)
  go_ret;exact ⟨rfl,hL.bw⟩
end Go.Proofs.YtcbmedfongiojaaGreatDoor
