/- Parts of a proof. -/
import Derived.Test.YtcjglfbpjkdgiaaGreatDoorKk24
import Derived.Test.YtcjglfbpjkdgiaaGreatDoorKk38
set_option maxHeartbeats 8000000
set_option maxRecDepth 100000
set_option linter.unusedVariables false
set_option linter.unusedSimpArgs false
namespace Go.Proofs.YtcjglfbpjkdgiaaGreatDoor
open Go.RowKit
def cv (k:Nat):Nm.Vec:=ptV (corners.getD k ⟨0,0⟩)
def BQ (k:Nat):Array Value:= #[.int .i64 k,Oy (cv k) (cv ((k+1) % 4))]
theorem Tm (k:Nat) (hk:k<4):ptV (corners[k]'hk)=cv k:=by
 unfold cv
 rw [List.getD_eq_getElem?_getD,List.getElem?_eq_getElem (show k<corners.length from hk)]
 rfl
theorem XE (S:Nat→Prop) (A B:Option Addr) (c d k:Nat) (w:World) (hk:k<4) (h:fP w S A c corners):
 Calls Tryz.prog 177 #[yj A c B d,.int .i64 k] w fun e w'=>e= .returned (Oy (cv k) (cv ((k+1) % 4)))∧Below w.heap.size w w':=by
 have:=Tv S A B c d k ((k+1) % 4) w hk (Nat.mod_lt _ (by omega)) rfl h
 rwa [Tm,Tm] at this
theorem Q5 (S:Nat→Prop) (A B:Option Addr) (c d:Nat) (K:Nat→Prop) (Bt n:Nat) (w:World) (hn:1≤n)
 (hKw:∀ b,K b→b<w.heap.size) (hBt:Held w Bt (dI A c B d) 87) (hKt:K Bt) (hL:fP w K A c corners):
 AZ (iL none) n Tryz.prog 176 #[ptr Bt] BQ K (fun _ _ pre x _=>x=pre.length∧x<4) (fun xs=>xs=List.range 4) (fun _=>True) 4 w:=by
 intro l0 J Jx W hW hJ hJx hY h0;refine ji ?_;have hBW:=hBt.below hW;have hLW:=Reads.below hL hW;have hKW:∀ b,K b→b<W.heap.size:=fun b hb=>Nat.lt_of_lt_of_le (hKw b hb) hW.size;have HY:=hide hY;clear hY hBt hL;have xI:=(hBW).cell (j:=0) rfl;have lJ:=(hBW).frozen 0;have ka1:=(hBW).cell (j:=1) rfl;have lK:=(hBW).frozen 1;have RI:=(hBW).cell (j:=2) rfl;have AA:=(hBW).frozen 2;have RN:=(hBW).cell (j:=3) rfl;have AB:=(hBW).frozen 3
 go_enter Tryz.func176,Tryz.ntmps176
 go_wp2
 go_loopw [7] (fun i wr=>∃ k:Nat,k≤4∧i= .int .i64 k∧J (fun _=>False) (fun _=>False) (List.range k) wr∧W.heap.size≤wr.heap.size∧∀ b,K b→wr.heap[b]? =W.heap[b]?) (fun i _=>4 - (intOf i).toNat)
 case atStart=>exact ⟨0,by omega,rfl,h0,Nat.le_refl _,fun _ _=>rfl⟩
 case round=>
  obtain ⟨k,hk,rfl,hj,hsz,hkp⟩:=hrel
  by_cases hlt:k<4
  · have hBr:Held wr Bt (dI A c B d) 87:=(hkp Bt hKt).trans hBW
    have hLr:fP wr K A c corners:=Reads.keep hLW hsz (fun b o hb _=>World.cell?_of_block (hkp b hb));have HE:=XE K A B c d k wr hlt hLr;have hea:BQ k= #[.int .i64 k,Oy (cv k) (cv ((k+1) % 4))]:=rfl;obtain ⟨v1,hv1⟩:∃ v,cv k=v:=⟨_,rfl⟩;obtain ⟨v2,hv2⟩:∃ v,cv ((k+1) % 4)=v:=⟨_,rfl⟩;rw [hv1,hv2] at HE hea;clear hv1 hv2;have HE:=hide HE;have HA:=hide hea;clear hea xI lJ ka1 lK RI AA RN AB;have TY:decide ((k:Int)<4)=true:=decide_eq_true (by omega)
    go_upto_region 3 with (fail)
    go_cut [16] from 9 to 16 (fun v wx=>(v= .bool false∧J (fun _=>False) (fun _=>False) (List.range (k+1)) wx∧wr.heap.size≤wx.heap.size∧∀ b,K b→wx.heap[b]? =W.heap[b]?)∨(v= .bool true∧Jx (fun _=>False) (fun _=>False) (List.range (k+1)) wx))
    case first=>
     refine (wpIn_wide (n:=n)).1 ?_;have ake:(iL none).round=none:=rfl;have ajo:(iL none).depth=none:=rfl;have ajC:∀ f,(iL none).fn f=True:=fun _=>rfl;refine wpIn_region_lit ?_
     gi_wp2_with (first | (refine OI hBr Tryz.underlying87 rfl sN rfl (.tmp 1) rfl rfl ?_) | (gi_at_call 177;refine (ji HE.out).mono ?_;rintro e w2 ⟨rfl,hb2⟩;obtain ⟨fn',Zq,assign',body',hy,hR⟩:=HY.out (fun _=>False) (fun _=>False) (List.range k) k w2 (hJ _ _ _ _ _ _ _ hj (Turn.of_below hb2) (fun b h=>h.elim) (fun b h=>h.elim)) (fun b h=>h.elim (fun h=>h.elim) (fun h=>h.elim)) (by rw [List.length_range];exact hlt) ⟨List.length_range.symm,hlt⟩;rw [HA.out] at hy))
     refine hR.mono ?_
     rintro e4 W4 (⟨rfl,TM,hk4⟩ | ⟨rfl,xE⟩)
     · gi_wp2
       go_meet;exact .inl ⟨rfl,by rw [List.range_succ];exact TM,Nat.le_trans hb2.size hk4.size,fun b hb=>(hk4.keep b hb).trans ((hb2.block b (Nat.lt_of_lt_of_le (hKW b hb) hsz)).trans (hkp b hb))⟩
     · gi_wp2
       go_meet;exact .inr ⟨rfl,by rw [List.range_succ];exact xE⟩
    case rest=>
     rcases hcut with ⟨rfl,TM,hs4,hk4⟩ | ⟨rfl,xE⟩
     · go_wp2
       go_roundw
       case rel=>exact ⟨k+1,by omega,by go_num,TM,Nat.le_trans hsz hs4,hk4⟩
       case measure=>simp [intOf];omega
     · go_wp2
       refine bodyPost_ret (results_none rfl _ _ _) rfl ?_
       first | exact ⟨⟨_,rfl⟩,.inr ⟨_,_,_,trivial,xE⟩⟩ | exact ⟨⟨_,rfl⟩,.inr ⟨_,_,_,xE⟩⟩
  · obtain rfl:k=4:=by omega
    go_wp2
    go_end0
    have hj4:J (fun _=>False) (fun _=>False) [0,1,2,3] wr:=hj;exact ⟨⟨_,rfl⟩,.inl ⟨_,_,hj4⟩⟩
def Oh (p:Nm.Vec) (k:Nat):Int:=Nm.Zp (Nm.cross (Nm.rM (cv ((k+1) % 4)) (cv k)) (Nm.rM p (cv k))).n
def Dj (p:Nm.Vec):Nat→Int
 | 0=>1
 | k+1=>min (Dj p k) (Oh p k)
def zx (p:Nm.Vec) (k:Nat):Bool:=Nm.Ru (cv k) && Nm.Ru (cv ((k+1) % 4)) && Nm.Ru p && Nm.cok (Nm.rM (cv ((k+1) % 4)) (cv k)) (Nm.rM p (cv k))
def Yu (p:Nm.Vec):Bool:=zx p 0 && zx p 1 && zx p 2 && zx p 3
theorem Yv {p:Nm.Vec} (h:Yu p=true) {k:Nat} (hk:k<4):zx p k=true:=by
 unfold Yu at h
 simp only [Bool.and_eq_true] at h
 obtain ⟨⟨⟨h0,h1⟩,h2⟩,h3⟩:=h
 match k,hk with
 | 0,_=>exact h0
 | 1,_=>exact h1
 | 2,_=>exact h2
 | 3,_=>exact h3
theorem WJ (A B:Option Addr) (c d:Nat) (w:World):
 Calls Tryz.prog 128 #[yj A c B d] w fun e w'=>e= .returned (.func (.func 176) #[] #[ptr w.heap.size])∧aX w w' [(dI A c B d,87)]:=by
 go_enter Tryz.func128,Tryz.ntmps128
 go_wp2;go_ret;exact ⟨rfl,(aX.nil w).new (by simp) (dI A c B d) _⟩
def tK (A:Option Addr) (c:Nat) (B:Option Addr) (d:Nat) (p:Nm.Vec) (k:Nat):List (List Value × TypeId):=[(dI A c B d,87),(aN p,130),([.int .i64 (Dj p k)],3)]
structure Xn (A:Option Addr) (c:Nat) (B:Option Addr) (d:Nat) (p:Nm.Vec) (w:World) (D:Nat) (X Y:Nat→Prop) (pre:List Nat) (W:World):Prop where
 b:aX w W (tK A c B d p pre.length)
 sz:D≤W.heap.size
 sep:∀ b,X b∨Y b→D≤b
theorem aX.turn {w W W':World} {L:List (List Value × TypeId)} {X:Nat→Prop} (h:aX w W L) (ht:Turn X W W') (hX:∀ b,X b→w.heap.size+L.length≤b) (hs:w.heap.size≤W.heap.size):aX w W' L:=
 ⟨fun i e he=>(ht.block _ (h.at_ i e he).lt (fun hx=>by have:=hX _ hx;have:=(List.getElem?_eq_some_iff.1 he).1;omega)).trans (h.at_ i e he),gB h.bw ht (fun b hb=>by have:=hX b hb;omega) hs⟩
theorem aX.putObj {w W:World} {L:List (List Value × TypeId)} {l:Nat} {o:Obj} (h:aX w W L) (hw:w.heap.size≤l) (hl:W.heap[l]? =some o) (ho:o.isCells=false) (o':Obj):aX w (W.putObj l o') L:=
 ⟨fun i e he=>(h.at_ i e he).putObj hl ho o',fJ h.bw hw _⟩
theorem Xn.abides (A:Option Addr) (c:Nat) (B:Option Addr) (d:Nat) (p:Nm.Vec) (w:World) (D:Nat) (hD:w.heap.size+3≤D):kZ (Xn A c B d p w D):=by
 intro X Y pre W X' Y' W' h ht hX hY;refine ⟨h.b.turn ht (fun b hb=>by have:=h.sep b (.inl hb);simp [tK];omega) (by have:=h.sz;omega),Nat.le_trans h.sz ht.size,?_⟩
 rintro b (hb | hb)
 · rcases hX b hb with h2 | h2
   · exact h.sep b (.inl h2)
   · exact Nat.le_trans h.sz h2
 · rcases hY b hb with h2 | h2
   · exact h.sep b (.inr h2)
   · exact Nat.le_trans h.sz h2
theorem Xn.putObj {A:Option Addr} {c:Nat} {B:Option Addr} {d:Nat} {p:Nm.Vec} {w:World} {D:Nat} {X Y:Nat→Prop} {pre:List Nat} {W:World} {lp:Nat} {o:Obj} (h:Xn A c B d p w D X Y pre W) (hD:w.heap.size≤D) (hlp:D≤lp) (hl:W.heap[lp]? =some o) (ho:o.isCells=false) (o':Obj):Xn A c B d p w D X Y pre (W.putObj lp o'):=
 ⟨h.b.putObj (by omega) hl ho o',by simpa using h.sz,h.sep⟩
theorem Oz {W:World} {g:Nat} {a b:Nm.Vec} {t:TypeId} (h:Held W g (fD a b) t):W.rangeAt g 0 (aN a):=fun j v hj=>by
 rw [Nat.zero_add];exact h.cell (by unfold fD;rw [List.getElem?_append_left (by have:=(List.getElem?_eq_some_iff.1 hj).1;exact this)];exact hj)
theorem XD {W:World} {g:Nat} {a b:Nm.Vec} {t:TypeId} (h:Held W g (fD a b) t):W.rangeAt g 8 (aN b):=fun j v hj=>
 h.cell (by unfold fD;rw [List.getElem?_append_right (by show 8≤_;omega),show 8+j - (aN a).length=j by show 8+j - 8=j;omega];exact hj)
theorem O7 (S:Nat→Prop) (A B:Option Addr) (c d:Nat) (p:Nm.Vec) (w:World) (hL:fP w S A c corners) (hok:Yu p=true):
 Calls Tryz.prog 61 #[yj A c B d,uU p] w fun e w'=>e= .returned (.int .i64 (Dj p 4))∧Below w.heap.size w w':=by
 refine callsIn_wide.1 (callsIn_of_wp_marks (F:=Fence.wide) (n:=5) Tryz.func61 rfl trivial ?_ rfl)
 simp only [Tryz.ntmps61,List.size_toArray,List.length_cons,List.length_nil,Nat.reduceAdd,Nat.reduceSub,Array.replicate_succ,
  Array.replicate_zero,List.push_toArray,List.append_toArray,List.nil_append,List.cons_append]
 refine wpIn_wide.2 ?_
 generalize hQ':bodyPostM Fence.wide 5 Tryz.prog _ _=Q'
 have HQ:=hide hQ';clear hQ'
 go_upto_region 1 with (fail)
 go_cut [2,3,5] from 2 to 8 (fun v2 v3 v5 w1=>v2=ptr w.heap.size∧v3=ptr (w.heap.size+1)∧v5=ptr (w.heap.size+2)∧aX w w1 (tK A c B d p 0))
 case first=>
  go_wp2;go_meet;exact ⟨rfl,rfl,rfl,((((aX.nil w).new (by simp) (dI A c B d) _).new (by simp) (aN p) _).new (by simp) ([.int .i64 1]) _)⟩
 case rest=>
  obtain ⟨rfl,rfl,rfl,hB⟩:=hcut
  rename World=>w1
  have hR1:fP w1 (fun b=>b=w1.heap.size∨(S b∧b<w.heap.size)) A c corners:=(Reads.more hL (S':=(fun b=>b=w1.heap.size∨(S b∧b<w.heap.size))) (fun b hb h=> .inr ⟨h,hb⟩)).below hB.bw;have hs1:=hB.size (by simp [tK])
  simp only [tK,List.length_cons,List.length_nil] at hs1
  go_wp2_with (first | (go_at_call 128;refine (WJ A B c d _).mono ?_;rintro e w3 ⟨rfl,hC⟩) | (refine aB 87 (.tmp 2) rfl ?_;refine ak (hB.ah rfl) Tryz.underlying87 rfl sN rfl (.tmp 2) rfl rfl ?_))
  have hs3:=hC.size (by simp)
  simp only [List.length_cons,List.length_nil] at hs3
  have hB3:=hB.upto hC.bw (by simpa [tK] using hs1)
  have hK3:∀ b,(fun b=>b=w1.heap.size∨(S b∧b<w.heap.size)) b→b<w3.heap.size:=by rintro b (h | ⟨_,h⟩) <;> omega
  have hR3:fP w3 (fun b=>b=w1.heap.size∨(S b∧b<w.heap.size)) A c corners:=Reads.below hR1 hC.bw;rename_i KQ TN;refine (wpIn_wide (n:=5)).1 ?_
  refine fV (F:=Fence.wide) rfl (by decide) rfl trivial (enters_of Tryz.func176 (by kernel_rfl) rfl) (Q5 (fun b=>b=w1.heap.size∨(S b∧b<w.heap.size)) A B c d (fun b=>b=w1.heap.size∨(S b∧b<w.heap.size)) w1.heap.size 4 w3 (by decide) hK3 (hC.ah rfl) (.inl rfl) hR3) hK3 (Below.refl _ _) (fun _=>rfl) (Xn A c B d p w w3.heap.size) (fun _ _ _ _=>False) (Xn.abides A c B d p w w3.heap.size (by omega)) (fun _ _ _ _ _ _ _ h _ _ _=>h)
   (fun X Y pre W lp o o' h hlp hl ho=>h.putObj (by omega) hlp hl ho o') (fun _ _ _ _ _ _ _ h _ _ _=>h) (fun X Y pre x W lp o o' h hlp hl ho=>h) ?h0 (fun x a W=>∃ Be v0 v1 v4 v6 v8 v9 v10 v11 v12 v13 v14 v15 v16 v17 v18 v19 v20 v21 v22 v23 v24 v25,a= {tmps:= #[v0,v1,ptr w.heap.size,ptr (w.heap.size+1),v4,ptr (w.heap.size+2),v6,ptr Be,v8,v9,v10,v11,v12,v13,v14,v15,v16,v17,v18,v19,v20,v21,v22,v23,v24,v25],defers:=[] }∧w3.heap.size≤Be∧Held W Be (fD (cv x) (cv ((x+1) % 4))) 213) ?assign ?ap ?body ?done ?stop
  case h0=>
   intro W hW;exact ⟨hB3.upto hW (by simp [tK];omega),hW.size,fun b h=>h.elim (fun h=>h.elim) (fun h=>h.elim)⟩
  case ap=>
   rintro x a' W lp o o' ⟨Be,v0,v1,v4,v6,v8,v9,v10,v11,v12,v13,v14,v15,v16,v17,v18,v19,v20,v21,v22,v23,v24,v25,e2,h1,h2⟩ hlp hl ho
   exact ⟨Be,v0,v1,v4,v6,v8,v9,v10,v11,v12,v13,v14,v15,v16,v17,v18,v19,v20,v21,v22,v23,v24,v25,e2,h1,h2.putObj hl ho _⟩
  case stop=>exact fun _ _ _ _ _ _ _ h _=>h.elim
  case assign=>
   intro lp X Y pre x W K' hi ht hk uy;have hb:=((Below.refl W.heap.size W).alloc (Nat.le_refl _) (.cells (fD (⟨0,0⟩,⟨0,0⟩) (⟨0,0⟩,⟨0,0⟩)).toArray 213));have hb':=below_setCells W.heap.size (Nat.le_refl _) (fD (cv x) (cv ((x+1) % 4))) 0 _ _ hb;have hE0:=Held.new W (fD (⟨0,0⟩,⟨0,0⟩) (⟨0,0⟩,⟨0,0⟩)) 213;have hsz:=hi.sz
   have fin:∀ v0 v1 v4 v6 v8 v9 v10 v11 v12 v13 v14 v15 v16 v17 v18 v19 v20 v21 v22 v23 v24 v25:Value,K' {tmps:= #[v0,v1,ptr w.heap.size,ptr (w.heap.size+1),v4,ptr (w.heap.size+2),v6,ptr W.heap.size,v8,v9,v10,v11,v12,v13,v14,v15,v16,v17,v18,v19,v20,v21,v22,v23,v24,v25],defers:=[] } ((W.alloc (.cells (fD (⟨0,0⟩,⟨0,0⟩) (⟨0,0⟩,⟨0,0⟩)).toArray 213)).setCells W.heap.size 0 (fD (cv x) (cv ((x+1) % 4)))):=fun _ _ _ _ _ _ _ _ _ _ _ _ _ _ _ _ _ _ _ _ _ _=>
    hk _ _ ⟨hb'.size,fun k o hk hl _=>(hb'.block k (Array.getElem?_eq_some_iff.1 hl).1).trans hl⟩
     ⟨hb'.size,fun b h=>hb'.block b (uy b h),fun b h=>hb'.block b (Nat.lt_of_lt_of_le (hK3 b h) hsz)⟩
     (Xn.abides A c B d p w w3.heap.size (by omega) _ _ _ _ _ _ _ hi (Turn.of_below hb') (fun b h=> .inl h) (fun b h=> .inl h)) ht
     ⟨W.heap.size,_,_,_,_,_,_,_,_,_,_,_,_,_,_,_,_,_,_,_,_,_,_,rfl,hsz,hE0.whole _ rfl⟩
   have FIN:=hide fin;clear hk fin hb hb' hi ht uy hsz;obtain ⟨v1,hv1⟩:∃ v,cv x=v:=⟨_,rfl⟩;obtain ⟨v2,hv2⟩:∃ v,cv ((x+1) % 4)=v:=⟨_,rfl⟩
   simp only [BQ,hv1,hv2] at FIN ⊢
   clear hv1 hv2
   simp
   refine bH (by kernel_rfl) (by rintro ⟨_,_,h⟩;exact h) ?_
   go_wp2_with (refine aO 213 (.tmp 7) (.tmp 11) rfl ?_;refine aF (hE0) (fD v1 v2) rfl yR (Ic _ _) rfl (.tmp 7) (.tmp 11) rfl rfl rfl ?_)
   exact FIN.out _ _ _ _ _ _ _ _ _ _ _ _ _ _ _ _ _ _ _ _ _ _
  case body=>
   rintro lp X Y pre x a' W hi ht ⟨Be,v0,v1,v4,v6,v8,v9,v10,v11,v12,v13,v14,v15,v16,v17,v18,v19,v20,v21,v22,v23,v24,v25,rfl,ZU,hE⟩ hlt uy hWs
   obtain ⟨hx,hx4⟩:=ht;have hso:=Yv hok hx4
   unfold zx at hso
   simp only [Bool.and_eq_true] at hso
   obtain ⟨⟨⟨o1,o2⟩,o3⟩,o4⟩:=hso
   have hst:Dj p (pre++[x]).length=min (Dj p pre.length) (Oh p pre.length):=by rw [List.length_append];rfl
   rw [← hx] at hst;have ZE:=fun W=>Fq (cv ((x+1) % 4)) (cv x) W o2 o1;have HL2:=fun W=>Fq p (cv x) W o3 o1;have HC:=fun W=>PK (Nm.rM (cv ((x+1) % 4)) (cv x)) (Nm.rM p (cv x)) W o4;have HS:=fun W=>PV (Nm.cross (Nm.rM (cv ((x+1) % 4)) (cv x)) (Nm.rM p (cv x))) W;rw [show Oh p x=Nm.Zp (Nm.cross (Nm.rM (cv ((x+1) % 4)) (cv x)) (Nm.rM p (cv x))).n from rfl] at hst;obtain ⟨u1,hu1⟩:∃ u,Nm.rM (cv ((x+1) % 4)) (cv x)=u:=⟨_,rfl⟩;obtain ⟨u2,hu2⟩:∃ u,Nm.rM p (cv x)=u:=⟨_,rfl⟩
   simp only [hu1] at ZE HC HS hst
   simp only [hu2] at HL2 HC HS hst
   obtain ⟨cr,hcr⟩:∃ u,Nm.cross u1 u2=u:=⟨_,rfl⟩
   simp only [hcr] at HC HS hst
   obtain ⟨z,hz⟩:∃ u,Nm.Zp cr.n=u:=⟨_,rfl⟩
   simp only [hz] at HS hst
   obtain ⟨v1,hv1⟩:∃ v,cv x=v:=⟨_,rfl⟩;obtain ⟨v2,hv2⟩:∃ v,cv ((x+1) % 4)=v:=⟨_,rfl⟩
   simp only [hv1] at ZE HL2 hE
   simp only [hv2] at ZE hE
   clear hu1 hu2 hcr hz hv1 hv2 o1 o2 o3 o4;have hBi:=hi.b;have hsep:=hi.sep;have hWz:=hi.sz;obtain ⟨m,hm⟩:∃ m,Dj p pre.length=m:=⟨_,rfl⟩;rw [← hx] at hm
   have hB2:aX w W [(dI A c B d,87),(aN p,130),([.int .i64 m],3)]:=by rw [← hm,hx];exact hBi
   rw [hm] at hst
   have fin:∀ (a:Act) (W4:World),Below W.heap.size W W4→o8 (fun b=>b=w1.heap.size∨(S b∧b<w.heap.size)) w3.heap.size X Y (Xn A c B d p w w3.heap.size) (fun _ _ _ _=>False) (pre++[x]) W .normal a (W4.setCell ⟨w.heap.size+2,0,none⟩ (.int .i64 (min m z))):=by
    intro a W4 hb4;have hB4:=(hB2.call (by simp) hb4).set 2 rfl 0 (.int .i64 (min m z));have hne:∀ b,b≠w.heap.size+2→b<W.heap.size→(W4.setCell ⟨w.heap.size+2,0,none⟩ (.int .i64 (min m z))).heap[b]? =W.heap[b]? :=fun b h h'=>(Below.heap_setCell W4 ⟨w.heap.size+2,0,none⟩ _ b h).trans (hb4.block b h')
    have aaq:W.heap.size≤(W4.setCell ⟨w.heap.size+2,0,none⟩ (.int .i64 (min m z))).heap.size:=by simpa [World.setCell] using hb4.size
    refine ⟨⟨aaq,fun k o hk hl _=>(hne k (by omega) (Array.getElem?_eq_some_iff.1 hl).1).trans hl⟩,⟨aaq,fun b h=>hne b (by have:=hsep b h;omega) (uy b h).2,fun b h=>hne b (by rcases h with h | ⟨_,h⟩ <;> omega) (Nat.lt_of_lt_of_le (hK3 b h) hWz)⟩,⟨?_,Nat.le_trans hWz aaq,hsep⟩⟩;rw [tK,hst];exact hB4
   have FIN:=hide fin;clear fin hi hBi hst;have hcell:W.drew.cell? ⟨w.heap.size+2,0,none⟩=some (.int .i64 m):=(hB2.get 2 rfl).cell (j:=0) rfl;have hB0:=hB2.drew;have hE0:=hE.drew;have ZE:=hide ZE;have HL2:=hide HL2;have HC:=hide HC;have HS:=hide HS;apply wpIn_block;refine gy (S:=(fun w':World=>Held w' Be (fD v1 v2) 213∧Held w' (w.heap.size+1) (aN p) 130)) (by kernel_rfl) (by rintro ⟨_,_,h⟩;exact h) (by kernel_rfl) ?jY (fun hHeld=>?_)
   case jY=>exact ⟨hE0,hB0.get 1 rfl⟩
   refine tk 1 ?_;refine wpAnyH_take (i:=2) (oi:=_) (v:=_) (ga rfl) (by kernel_rfl) (by kernel_rfl) (by kernel_rfl) (fun _ _ _ h=>h) (yieldsIf_load_mid (by rfl) _ _ (by rfl) _ _ (by rfl) _ _ (fun _ h=>XD h.1) Tryz.underlying130 rfl (by kernel_rfl)) (by assumption) ?_
   try simp only [Act.put,la,lz,ls]
   refine tk 3 ?_;refine wpAnyH_take (i:=4) (oi:=_) (v:=_) (ga rfl) (by kernel_rfl) (by kernel_rfl) (by kernel_rfl) (fun _ _ _ h=>h) (yieldsIf_load_mid (by rfl) _ _ (by rfl) _ _ (by rfl) _ _ (fun _ h=>Oz h.1) Tryz.underlying130 rfl (by kernel_rfl)) (by assumption) ?_
   try simp only [Act.put,la,lz,ls]
   refine wpAnyH_take (i:=6) (oi:=_) (v:=_) (ga rfl) (by kernel_rfl) (by kernel_rfl) (by kernel_rfl) (fun _ _ _ h=>h) (yieldsIf_load_mid (by rfl) _ _ (by rfl) _ _ (by rfl) _ _ (fun _ h=>h.2.range) Tryz.underlying130 rfl (by kernel_rfl)) (by assumption) ?_
   try simp only [Act.put,la,lz,ls]
   refine tk 7 ?_;refine wpAnyH_take (i:=8) (oi:=_) (v:=_) (ga rfl) (by kernel_rfl) (by kernel_rfl) (by kernel_rfl) (fun _ _ _ h=>h) (yieldsIf_load_mid (by rfl) _ _ (by rfl) _ _ (by rfl) _ _ (fun _ h=>Oz h.1) Tryz.underlying130 rfl (by kernel_rfl)) (by assumption) ?_
   try simp only [Act.put,la,lz,ls]
   refine wpAnyH_ready (rs:=[0,5]) (by kernel_rfl) (by simp) ?_;refine AllReadyH.cons (o:=_) (ga rfl) (fun K hK=>?_) (AllReadyH.cons (o:=_) (ga rfl) (fun K hK=>?_) AllReadyH.nil)
   · go_simp
     refine hK.out _ _ ?VL (fun hHeld=>?_)
     case VL=>(assumption)
     clear hK K
     try simp only [Act.put,la,lz,ls]
     refine tr 5 fun K hK=>?_;go_simp
     (go_at_call 129;refine (ZE.out _).mono ?_;rintro e Xg ⟨rfl,hb1⟩)
     have hB1:=hB0.call (by simp) hb1;have hE1:=hE0.below hb1;have hc1:=(hB1.get 2 rfl).cell (j:=0) rfl;have asz:=(hB1.get 2 rfl).frozen 0;have xG:=(Below.refl _ _).trans (hb1);refine hK.out _ _ ?V5 (fun hHeld=>?_)
     case V5=>(exact ⟨hE1,hB1.get 1 rfl⟩)
     clear hK K
     try simp only [Act.put,la,lz,ls]
     refine tr 9 fun K hK=>?_;go_simp
     (go_at_call 129;refine (HL2.out _).mono ?_;rintro e w12 ⟨rfl,hb2⟩)
     have hB2:=hB1.call (by simp) hb2;have hE2:=hE1.below hb2;have hc2:=(hB2.get 2 rfl).cell (j:=0) rfl;have aja:=(hB2.get 2 rfl).frozen 0;have hbw2:=xG.trans (hb2.mono xG.size);refine hK.out _ _ ?WA (fun hHeld=>?_)
     case WA=>(exact ⟨hE2,hB2.get 1 rfl⟩)
     clear hK K
     try simp only [Act.put,la,lz,ls]
     refine tr 10 fun K hK=>?_;go_simp
     (go_at_call 130;refine (HC.out _).mono ?_;rintro e Zr ⟨rfl,hb3⟩)
     have hB3:=hB2.call (by simp) hb3;have F6:=hE2.below hb3;have hc3:=(hB3.get 2 rfl).cell (j:=0) rfl;have Z8:=(hB3.get 2 rfl).frozen 0;have hbw3:=hbw2.trans (hb3.mono hbw2.size);refine hK.out _ _ ?QM (fun hHeld=>?_)
     case QM=>(exact ⟨F6,hB3.get 1 rfl⟩)
     clear hK K
     try simp only [Act.put,la,lz,ls]
     refine tr 11 fun K hK=>?_;go_simp
     (go_at_call 131;refine (HS.out _).mono ?_;rintro e Xh ⟨rfl,hb4⟩)
     have hB4:=hB3.call (by simp) hb4;have Lj:=F6.below hb4;have hc4:=(hB4.get 2 rfl).cell (j:=0) rfl;have X7:=(hB4.get 2 rfl).frozen 0;have F8:=hbw3.trans (hb4.mono hbw3.size);refine hK.out _ _ ?QS (fun hHeld=>?_)
     case QS=>(exact ⟨Lj,hB4.get 1 rfl⟩)
     clear hK K
     try simp only [Act.put,la,lz,ls]
     refine tk 12 ?_;refine tr 13 fun K hK=>?_;go_simp;refine hK.out _ _ ?QV (fun hHeld=>?_)
     case QV=>(exact ⟨Lj.other (g':=w.heap.size+2) (by omega) 0 _,(hB4.set 2 rfl 0 _).get 1 rfl⟩)
     clear hK K
     try simp only [Act.put,la,lz,ls]
     refine wpAnyH_done (by kernel_rfl) ?_ _;exact FIN.out {tmps:= #[],defers:=[] } _ (iC F8)
   · go_simp
     (go_at_call 129;refine (ZE.out _).mono ?_;rintro e Xg ⟨rfl,hb1⟩)
     have hB1:=hB0.call (by simp) hb1;have hE1:=hE0.below hb1;have hc1:=(hB1.get 2 rfl).cell (j:=0) rfl;have asz:=(hB1.get 2 rfl).frozen 0;have xG:=(Below.refl _ _).trans (hb1);refine hK.out _ _ ?V6 (fun hHeld=>?_)
     case V6=>(exact ⟨hE1,hB1.get 1 rfl⟩)
     clear hK K
     try simp only [Act.put,la,lz,ls]
     refine wpAnyH_ready (rs:=[0,9]) (by kernel_rfl) (by simp) ?_;refine AllReadyH.cons (o:=_) (ga rfl) (fun K hK=>?_) (AllReadyH.cons (o:=_) (ga rfl) (fun K hK=>?_) AllReadyH.nil)
     · go_simp
       refine hK.out _ _ ?VP (fun hHeld=>?_)
       case VP=>(assumption)
       clear hK K
       try simp only [Act.put,la,lz,ls]
       refine tr 9 fun K hK=>?_;go_simp
       (go_at_call 129;refine (HL2.out _).mono ?_;rintro e w12 ⟨rfl,hb2⟩)
       have hB2:=hB1.call (by simp) hb2;have hE2:=hE1.below hb2;have hc2:=(hB2.get 2 rfl).cell (j:=0) rfl;have aja:=(hB2.get 2 rfl).frozen 0;have hbw2:=xG.trans (hb2.mono xG.size);refine hK.out _ _ ?WB (fun hHeld=>?_)
       case WB=>(exact ⟨hE2,hB2.get 1 rfl⟩)
       clear hK K
       try simp only [Act.put,la,lz,ls]
       refine tr 10 fun K hK=>?_;go_simp
       (go_at_call 130;refine (HC.out _).mono ?_;rintro e Zr ⟨rfl,hb3⟩)
       have hB3:=hB2.call (by simp) hb3;have F6:=hE2.below hb3;have hc3:=(hB3.get 2 rfl).cell (j:=0) rfl;have Z8:=(hB3.get 2 rfl).frozen 0;have hbw3:=hbw2.trans (hb3.mono hbw2.size);refine hK.out _ _ ?QN (fun hHeld=>?_)
       case QN=>(exact ⟨F6,hB3.get 1 rfl⟩)
       clear hK K
       try simp only [Act.put,la,lz,ls]
       refine tr 11 fun K hK=>?_;go_simp
       (go_at_call 131;refine (HS.out _).mono ?_;rintro e Xh ⟨rfl,hb4⟩)
       have hB4:=hB3.call (by simp) hb4;have Lj:=F6.below hb4;have hc4:=(hB4.get 2 rfl).cell (j:=0) rfl;have X7:=(hB4.get 2 rfl).frozen 0;have F8:=hbw3.trans (hb4.mono hbw3.size);refine hK.out _ _ ?QT (fun hHeld=>?_)
       case QT=>(exact ⟨Lj,hB4.get 1 rfl⟩)
       clear hK K
       try simp only [Act.put,la,lz,ls]
       refine tk 12 ?_;refine tr 13 fun K hK=>?_;go_simp;refine hK.out _ _ ?QW (fun hHeld=>?_)
       case QW=>(exact ⟨Lj.other (g':=w.heap.size+2) (by omega) 0 _,(hB4.set 2 rfl 0 _).get 1 rfl⟩)
       clear hK K
       try simp only [Act.put,la,lz,ls]
       refine wpAnyH_done (by kernel_rfl) ?_ _;exact FIN.out {tmps:= #[],defers:=[] } _ (iC F8)
     · go_simp
       (go_at_call 129;refine (HL2.out _).mono ?_;rintro e w12 ⟨rfl,hb2⟩)
       have hB2:=hB1.call (by simp) hb2;have hE2:=hE1.below hb2;have hc2:=(hB2.get 2 rfl).cell (j:=0) rfl;have aja:=(hB2.get 2 rfl).frozen 0;have hbw2:=xG.trans (hb2.mono xG.size);refine hK.out _ _ ?WC (fun hHeld=>?_)
       case WC=>(exact ⟨hE2,hB2.get 1 rfl⟩)
       clear hK K
       try simp only [Act.put,la,lz,ls]
       refine wpAnyH_ready (rs:=[0,10]) (by kernel_rfl) (by simp) ?_;refine AllReadyH.cons (o:=_) (ga rfl) (fun K hK=>?_) (AllReadyH.cons (o:=_) (ga rfl) (fun K hK=>?_) AllReadyH.nil)
       · go_simp
         refine hK.out _ _ ?VQ (fun hHeld=>?_)
         case VQ=>(assumption)
         clear hK K
         try simp only [Act.put,la,lz,ls]
         refine tr 10 fun K hK=>?_;go_simp
         (go_at_call 130;refine (HC.out _).mono ?_;rintro e Zr ⟨rfl,hb3⟩)
         have hB3:=hB2.call (by simp) hb3;have F6:=hE2.below hb3;have hc3:=(hB3.get 2 rfl).cell (j:=0) rfl;have Z8:=(hB3.get 2 rfl).frozen 0;have hbw3:=hbw2.trans (hb3.mono hbw2.size);refine hK.out _ _ ?QO (fun hHeld=>?_)
         case QO=>(exact ⟨F6,hB3.get 1 rfl⟩)
         clear hK K
         try simp only [Act.put,la,lz,ls]
         refine tr 11 fun K hK=>?_;go_simp
         (go_at_call 131;refine (HS.out _).mono ?_;rintro e Xh ⟨rfl,hb4⟩)
         have hB4:=hB3.call (by simp) hb4;have Lj:=F6.below hb4;have hc4:=(hB4.get 2 rfl).cell (j:=0) rfl;have X7:=(hB4.get 2 rfl).frozen 0;have F8:=hbw3.trans (hb4.mono hbw3.size);refine hK.out _ _ ?QU (fun hHeld=>?_)
         case QU=>(exact ⟨Lj,hB4.get 1 rfl⟩)
         clear hK K
         try simp only [Act.put,la,lz,ls]
         refine tk 12 ?_;refine tr 13 fun K hK=>?_;go_simp;refine hK.out _ _ ?QX (fun hHeld=>?_)
         case QX=>(exact ⟨Lj.other (g':=w.heap.size+2) (by omega) 0 _,(hB4.set 2 rfl 0 _).get 1 rfl⟩)
         clear hK K
         try simp only [Act.put,la,lz,ls]
         refine wpAnyH_done (by kernel_rfl) ?_ _;exact FIN.out {tmps:= #[],defers:=[] } _ (iC F8)
       · go_simp
         (go_at_call 130;refine (HC.out _).mono ?_;rintro e Zr ⟨rfl,hb3⟩)
         have hB3:=hB2.call (by simp) hb3;have F6:=hE2.below hb3;have hc3:=(hB3.get 2 rfl).cell (j:=0) rfl;have Z8:=(hB3.get 2 rfl).frozen 0;have hbw3:=hbw2.trans (hb3.mono hbw2.size);refine hK.out _ _ ?NZ (fun hHeld=>?_)
         case NZ=>(exact ⟨F6,hB3.get 1 rfl⟩)
         clear hK K
         try simp only [Act.put,la,lz,ls]
         refine wpAnyH_ready (rs:=[0,11]) (by kernel_rfl) (by simp) ?_;refine AllReadyH.cons (o:=_) (ga rfl) (fun K hK=>?_) (AllReadyH.cons (o:=_) (ga rfl) (fun K hK=>?_) AllReadyH.nil)
         · go_simp
           refine hK.out _ _ ?QK (fun hHeld=>?_)
           case QK=>(assumption)
           clear hK K
           try simp only [Act.put,la,lz,ls]
           refine tr 11 fun K hK=>?_;go_simp
           (go_at_call 131;refine (HS.out _).mono ?_;rintro e Xh ⟨rfl,hb4⟩)
           have hB4:=hB3.call (by simp) hb4;have Lj:=F6.below hb4;have hc4:=(hB4.get 2 rfl).cell (j:=0) rfl;have X7:=(hB4.get 2 rfl).frozen 0;have F8:=hbw3.trans (hb4.mono hbw3.size);refine hK.out _ _ ?N7 (fun hHeld=>?_)
           case N7=>(exact ⟨Lj,hB4.get 1 rfl⟩)
           clear hK K
           try simp only [Act.put,la,lz,ls]
           refine tk 12 ?_;refine tr 13 fun K hK=>?_;go_simp;refine hK.out _ _ ?N9 (fun hHeld=>?_)
           case N9=>(exact ⟨Lj.other (g':=w.heap.size+2) (by omega) 0 _,(hB4.set 2 rfl 0 _).get 1 rfl⟩)
           clear hK K
           try simp only [Act.put,la,lz,ls]
           refine wpAnyH_done (by kernel_rfl) ?_ _;exact FIN.out {tmps:= #[],defers:=[] } _ (iC F8)
         · go_simp
           (go_at_call 131;refine (HS.out _).mono ?_;rintro e Xh ⟨rfl,hb4⟩)
           have hB4:=hB3.call (by simp) hb4;have Lj:=F6.below hb4;have hc4:=(hB4.get 2 rfl).cell (j:=0) rfl;have X7:=(hB4.get 2 rfl).frozen 0;have F8:=hbw3.trans (hb4.mono hbw3.size);refine hK.out _ _ ?N8 (fun hHeld=>?_)
           case N8=>(exact ⟨Lj,hB4.get 1 rfl⟩)
           clear hK K
           try simp only [Act.put,la,lz,ls]
           refine tr 0 fun K hK=>?_;go_simp;refine hK.out _ _ ?QL (fun hHeld=>?_)
           case QL=>(assumption)
           clear hK K
           try simp only [Act.put,la,lz,ls]
           refine tk 12 ?_;refine tr 13 fun K hK=>?_;go_simp;refine hK.out _ _ ?Oa (fun hHeld=>?_)
           case Oa=>(exact ⟨Lj.other (g':=w.heap.size+2) (by omega) 0 _,(hB4.set 2 rfl 0 _).get 1 rfl⟩)
           clear hK K
           try simp only [Act.put,la,lz,ls]
           refine wpAnyH_done (by kernel_rfl) ?_ _;exact FIN.out {tmps:= #[],defers:=[] } _ (iC F8)
  case done=>
   intro D X Y xs W hD hS hi hdef;have Y7:=hi.b;rw [hS,show tK A c B d p (List.range 4).length=[(dI A c B d,87),(aN p,130),([.int .i64 (Dj p 4)],3)] from rfl] at Y7;obtain ⟨m,hm⟩:∃ m,Dj p 4=m:=⟨_,rfl⟩;rw [hm] at Y7;have HM:=hide hm;have hc9:=(Y7.get 2 rfl).cell (j:=0) rfl
   have hD':w.heap.size≤D:=by omega
   have yN:=hide hdef;clear hm hi hS hdef;refine TN _ _ ?_
   dsimp only
   refine kY ?_;go_wp2
   show Q' .ret _ _
   rw [← HQ.out,HM.out];exact jA rfl yN.out (results_tmp (t:=4) rfl _ _ _) ⟨rfl,fJ Y7.bw hD' _⟩
end Go.Proofs.YtcjglfbpjkdgiaaGreatDoor
