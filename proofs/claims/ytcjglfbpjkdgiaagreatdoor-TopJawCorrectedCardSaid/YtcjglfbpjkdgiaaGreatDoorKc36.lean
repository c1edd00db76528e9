/- Parts of a proof. -/
import Derived.Test.YtcjglfbpjkdgiaaGreatDoorKc21
import Derived.Test.YtcjglfbpjkdgiaaGreatDoorKc35
set_option maxHeartbeats 8000000
set_option maxRecDepth 100000
set_option linter.unusedVariables false
set_option linter.unusedSimpArgs false
namespace Go.Proofs.YtcjglfbpjkdgiaaGreatDoor
open Go.RowKit
def cv (k:Nat):Nm.Vec:=Zj (corners.getD k ⟨0,0⟩)
def yX (k:Nat):Array Value:= #[.int .i64 k,JG (cv k) (cv ((k+1) % 4))]
theorem OM (k:Nat) (hk:k<4):Zj (corners[k]'hk)=cv k:=by
 unfold cv
 rw [List.getD_eq_getElem?_getD,List.getElem?_eq_getElem (show k<corners.length from hk)]
 rfl
theorem TQ (S:Nat→Prop) (A B:Option Addr) (c d k:Nat) (w:World) (hk:k<4) (h:fA w S A c corners):
 Calls Tryz.prog 177 #[vI A c B d,.int .i64 k] w fun e w'=>e= .returned (JG (cv k) (cv ((k+1) % 4)))∧Below w.heap.size w w':=by
 have:=OQ S A B c d k ((k+1) % 4) w hk (Nat.mod_lt _ (by omega)) rfl h
 rwa [OM,OM] at this
theorem Nk (S:Nat→Prop) (A B:Option Addr) (c d:Nat) (K:Nat→Prop) (Bt n:Nat) (w:World) (hn:1≤n)
 (hKw:∀ b,K b→b<w.heap.size) (hBt:Held w Bt (dF A c B d) 87) (hKt:K Bt) (hL:fA w K A c corners):
 yE (gQ none) n Tryz.prog 176 #[ptr Bt] yX K (fun _ _ pre x _=>x=pre.length∧x<4) (fun xs=>xs=List.range 4) (fun _=>True) 4 w:=by
 intro l0 J Jx W hW hJ hJx hY h0;refine iJ ?_;have hBW:=hBt.below hW;have hLW:=Reads.below hL hW;have hKW:∀ b,K b→b<W.heap.size:=fun b hb=>Nat.lt_of_lt_of_le (hKw b hb) hW.size;have HY:=hide hY;clear hY hBt hL;have uQ:=(hBW).cell (j:=0) rfl;have jZ:=(hBW).frozen 0;have ka1:=(hBW).cell (j:=1) rfl;have ku:=(hBW).frozen 1;have NP:=(hBW).cell (j:=2) rfl;have yt:=(hBW).frozen 2;have NQ:=(hBW).cell (j:=3) rfl;have yu:=(hBW).frozen 3
 go_enter Tryz.func176,Tryz.ntmps176
 go_wp2
 go_loopw [7] (fun i wr=>∃ k:Nat,k≤4∧i= .int .i64 k∧J (fun _=>False) (fun _=>False) (List.range k) wr∧W.heap.size≤wr.heap.size∧∀ b,K b→wr.heap[b]? =W.heap[b]?) (fun i _=>4 - (intOf i).toNat)
 case atStart=>exact ⟨0,by omega,rfl,h0,Nat.le_refl _,fun _ _=>rfl⟩
 case round=>
  obtain ⟨k,hk,rfl,hj,hsz,hkp⟩:=hrel
  by_cases hlt:k<4
  · have hBr:Held wr Bt (dF A c B d) 87:=(hkp Bt hKt).trans hBW
    have hLr:fA wr K A c corners:=Reads.keep hLW hsz (fun b o hb _=>World.cell?_of_block (hkp b hb));have HE:=TQ K A B c d k wr hlt hLr;have hea:yX k= #[.int .i64 k,JG (cv k) (cv ((k+1) % 4))]:=rfl;obtain ⟨v1,hv1⟩:∃ v,cv k=v:=⟨_,rfl⟩;obtain ⟨v2,hv2⟩:∃ v,cv ((k+1) % 4)=v:=⟨_,rfl⟩;rw [hv1,hv2] at HE hea;clear hv1 hv2;have HE:=hide HE;have HA:=hide hea;clear hea uQ jZ ka1 ku NP yt NQ yu;have Po:decide ((k:Int)<4)=true:=decide_eq_true (by omega)
    go_upto_region 3 with (fail)
    go_cut [16] from 9 to 16 (fun v wx=>(v= .bool false∧J (fun _=>False) (fun _=>False) (List.range (k+1)) wx∧wr.heap.size≤wx.heap.size∧∀ b,K b→wx.heap[b]? =W.heap[b]?)∨(v= .bool true∧Jx (fun _=>False) (fun _=>False) (List.range (k+1)) wx))
    case first=>
     refine (wpIn_wide (n:=n)).1 ?_;have YH:(gQ none).round=none:=rfl;have Yy:(gQ none).depth=none:=rfl;have YA:∀ f,(gQ none).fn f=True:=fun _=>rfl;refine wpIn_region_lit ?_
     gi_wp2_with (first | (refine JU hBr Tryz.underlying87 rfl qc rfl (.tmp 1) rfl rfl ?_) | (gi_at_call 177;refine (iJ HE.out).mono ?_;rintro e w2 ⟨rfl,hb2⟩;obtain ⟨fn',VH,assign',body',hy,hR⟩:=HY.out (fun _=>False) (fun _=>False) (List.range k) k w2 (hJ _ _ _ _ _ _ _ hj (Turn.of_below hb2) (fun b h=>h.elim) (fun b h=>h.elim)) (fun b h=>h.elim (fun h=>h.elim) (fun h=>h.elim)) (by rw [List.length_range];exact hlt) ⟨List.length_range.symm,hlt⟩;rw [HA.out] at hy))
     refine hR.mono ?_
     rintro e4 W4 (⟨rfl,O5,hk4⟩ | ⟨rfl,uM⟩)
     · gi_wp2
       go_meet;exact .inl ⟨rfl,by rw [List.range_succ];exact O5,Nat.le_trans hb2.size hk4.size,fun b hb=>(hk4.keep b hb).trans ((hb2.block b (Nat.lt_of_lt_of_le (hKW b hb) hsz)).trans (hkp b hb))⟩
     · gi_wp2
       go_meet;exact .inr ⟨rfl,by rw [List.range_succ];exact uM⟩
    case rest=>
     rcases hcut with ⟨rfl,O5,hs4,hk4⟩ | ⟨rfl,uM⟩
     · go_wp2
       go_roundw
       case rel=>exact ⟨k+1,by omega,by go_num,O5,Nat.le_trans hsz hs4,hk4⟩
       case measure=>simp [intOf];omega
     · go_wp2
       refine bodyPost_ret (results_none rfl _ _ _) rfl ?_
       first | exact ⟨⟨_,rfl⟩,.inr ⟨_,_,_,trivial,uM⟩⟩ | exact ⟨⟨_,rfl⟩,.inr ⟨_,_,_,uM⟩⟩
  · obtain rfl:k=4:=by omega
    go_wp2
    go_end0
    have hj4:J (fun _=>False) (fun _=>False) [0,1,2,3] wr:=hj;exact ⟨⟨_,rfl⟩,.inl ⟨_,_,hj4⟩⟩
def Jy (p:Nm.Vec) (k:Nat):Int:=Nm.VG (Nm.cross (Nm.oV (cv ((k+1) % 4)) (cv k)) (Nm.oV p (cv k))).n
def zU (p:Nm.Vec):Nat→Int
 | 0=>1
 | k+1=>min (zU p k) (Jy p k)
def wO (p:Nm.Vec) (k:Nat):Bool:=Nm.NG (cv k) && Nm.NG (cv ((k+1) % 4)) && Nm.NG p && Nm.cok (Nm.oV (cv ((k+1) % 4)) (cv k)) (Nm.oV p (cv k))
def UL (p:Nm.Vec):Bool:=wO p 0 && wO p 1 && wO p 2 && wO p 3
theorem UM {p:Nm.Vec} (h:UL p=true) {k:Nat} (hk:k<4):wO p k=true:=by
 unfold UL at h
 simp only [Bool.and_eq_true] at h
 obtain ⟨⟨⟨h0,h1⟩,h2⟩,h3⟩:=h
 match k,hk with
 | 0,_=>exact h0
 | 1,_=>exact h1
 | 2,_=>exact h2
 | 3,_=>exact h3
theorem SB (A B:Option Addr) (c d:Nat) (w:World):
 Calls Tryz.prog 128 #[vI A c B d] w fun e w'=>e= .returned (.func (.func 176) #[] #[ptr w.heap.size])∧aS w w' [(dF A c B d,87)]:=by
 go_enter Tryz.func128,Tryz.ntmps128
 go_wp2;go_ret;exact ⟨rfl,(aS.nil w).new (by simp) (dF A c B d) _⟩
def qE (A:Option Addr) (c:Nat) (B:Option Addr) (d:Nat) (p:Nm.Vec) (k:Nat):List (List Value × TypeId):=[(dF A c B d,87),(aK p,130),([.int .i64 (zU p k)],3)]
structure TG (A:Option Addr) (c:Nat) (B:Option Addr) (d:Nat) (p:Nm.Vec) (w:World) (D:Nat) (X Y:Nat→Prop) (pre:List Nat) (W:World):Prop where
 b:aS w W (qE A c B d p pre.length)
 sz:D≤W.heap.size
 sep:∀ b,X b∨Y b→D≤b
theorem aS.turn {w W W':World} {L:List (List Value × TypeId)} {X:Nat→Prop} (h:aS w W L) (ht:Turn X W W') (hX:∀ b,X b→w.heap.size+L.length≤b) (hs:w.heap.size≤W.heap.size):aS w W' L:=
 ⟨fun i e he=>(ht.block _ (h.at_ i e he).lt (fun hx=>by have:=hX _ hx;have:=(List.getElem?_eq_some_iff.1 he).1;omega)).trans (h.at_ i e he),fM h.bw ht (fun b hb=>by have:=hX b hb;omega) hs⟩
theorem aS.putObj {w W:World} {L:List (List Value × TypeId)} {l:Nat} {o:Obj} (h:aS w W L) (hw:w.heap.size≤l) (hl:W.heap[l]? =some o) (ho:o.isCells=false) (o':Obj):aS w (W.putObj l o') L:=
 ⟨fun i e he=>(h.at_ i e he).putObj hl ho o',fZ h.bw hw _⟩
theorem TG.abides (A:Option Addr) (c:Nat) (B:Option Addr) (d:Nat) (p:Nm.Vec) (w:World) (D:Nat) (hD:w.heap.size+3≤D):nT (TG A c B d p w D):=by
 intro X Y pre W X' Y' W' h ht hX hY;refine ⟨h.b.turn ht (fun b hb=>by have:=h.sep b (.inl hb);simp [qE];omega) (by have:=h.sz;omega),Nat.le_trans h.sz ht.size,?_⟩
 rintro b (hb | hb)
 · rcases hX b hb with h2 | h2
   · exact h.sep b (.inl h2)
   · exact Nat.le_trans h.sz h2
 · rcases hY b hb with h2 | h2
   · exact h.sep b (.inr h2)
   · exact Nat.le_trans h.sz h2
theorem TG.putObj {A:Option Addr} {c:Nat} {B:Option Addr} {d:Nat} {p:Nm.Vec} {w:World} {D:Nat} {X Y:Nat→Prop} {pre:List Nat} {W:World} {lp:Nat} {o:Obj} (h:TG A c B d p w D X Y pre W) (hD:w.heap.size≤D) (hlp:D≤lp) (hl:W.heap[lp]? =some o) (ho:o.isCells=false) (o':Obj):TG A c B d p w D X Y pre (W.putObj lp o'):=
 ⟨h.b.putObj (by omega) hl ho o',by simpa using h.sz,h.sep⟩
theorem JH {W:World} {g:Nat} {a b:Nm.Vec} {t:TypeId} (h:Held W g (eu a b) t):W.rangeAt g 0 (aK a):=fun j v hj=>by
 rw [Nat.zero_add];exact h.cell (by unfold eu;rw [List.getElem?_append_left (by have:=(List.getElem?_eq_some_iff.1 hj).1;exact this)];exact hj)
theorem TP {W:World} {g:Nat} {a b:Nm.Vec} {t:TypeId} (h:Held W g (eu a b) t):W.rangeAt g 8 (aK b):=fun j v hj=>
 h.cell (by unfold eu;rw [List.getElem?_append_right (by show 8≤_;omega),show 8+j - (aK a).length=j by show 8+j - 8=j;omega];exact hj)
theorem Ku (S:Nat→Prop) (A B:Option Addr) (c d:Nat) (p:Nm.Vec) (w:World) (hL:fA w S A c corners) (hok:UL p=true):
 Calls Tryz.prog 61 #[vI A c B d,rV p] w fun e w'=>e= .returned (.int .i64 (zU p 4))∧Below w.heap.size w w':=by
 refine callsIn_wide.1 (callsIn_of_wp_marks (F:=Fence.wide) (n:=5) Tryz.func61 rfl trivial ?_ rfl)
 simp only [Tryz.ntmps61,List.size_toArray,List.length_cons,List.length_nil,Nat.reduceAdd,Nat.reduceSub,Array.replicate_succ,
  Array.replicate_zero,List.push_toArray,List.append_toArray,List.nil_append,List.cons_append]
 refine wpIn_wide.2 ?_
 generalize hQ':bodyPostM Fence.wide 5 Tryz.prog _ _=Q'
 have HQ:=hide hQ';clear hQ'
 go_upto_region 1 with (fail)
 go_cut [2,3,5] from 2 to 8 (fun v2 v3 v5 w1=>v2=ptr w.heap.size∧v3=ptr (w.heap.size+1)∧v5=ptr (w.heap.size+2)∧aS w w1 (qE A c B d p 0))
 case first=>
  go_wp2;go_meet;exact ⟨rfl,rfl,rfl,((((aS.nil w).new (by simp) (dF A c B d) _).new (by simp) (aK p) _).new (by simp) ([.int .i64 1]) _)⟩
 case rest=>
  obtain ⟨rfl,rfl,rfl,hB⟩:=hcut
  rename World=>w1
  have hR1:fA w1 (fun b=>b=w1.heap.size∨(S b∧b<w.heap.size)) A c corners:=(Reads.more hL (S':=(fun b=>b=w1.heap.size∨(S b∧b<w.heap.size))) (fun b hb h=> .inr ⟨h,hb⟩)).below hB.bw;have hs1:=hB.size (by simp [qE])
  simp only [qE,List.length_cons,List.length_nil] at hs1
  go_wp2_with (first | (go_at_call 128;refine (SB A B c d _).mono ?_;rintro e w3 ⟨rfl,hC⟩) | (refine aC 87 (.tmp 2) rfl ?_;refine au (hB.ah rfl) Tryz.underlying87 rfl qc rfl (.tmp 2) rfl rfl ?_))
  have hs3:=hC.size (by simp)
  simp only [List.length_cons,List.length_nil] at hs3
  have hB3:=hB.upto hC.bw (by simpa [qE] using hs1)
  have hK3:∀ b,(fun b=>b=w1.heap.size∨(S b∧b<w.heap.size)) b→b<w3.heap.size:=by rintro b (h | ⟨_,h⟩) <;> omega
  have hR3:fA w3 (fun b=>b=w1.heap.size∨(S b∧b<w.heap.size)) A c corners:=Reads.below hR1 hC.bw;rename_i KQ Uc;refine (wpIn_wide (n:=5)).1 ?_
  refine fV (F:=Fence.wide) rfl (by decide) rfl trivial (enters_of Tryz.func176 (by kernel_rfl) rfl) (Nk (fun b=>b=w1.heap.size∨(S b∧b<w.heap.size)) A B c d (fun b=>b=w1.heap.size∨(S b∧b<w.heap.size)) w1.heap.size 4 w3 (by decide) hK3 (hC.ah rfl) (.inl rfl) hR3) hK3 (Below.refl _ _) (fun _=>rfl) (TG A c B d p w w3.heap.size) (fun _ _ _ _=>False) (TG.abides A c B d p w w3.heap.size (by omega)) (fun _ _ _ _ _ _ _ h _ _ _=>h)
   (fun X Y pre W lp o o' h hlp hl ho=>h.putObj (by omega) hlp hl ho o') (fun _ _ _ _ _ _ _ h _ _ _=>h) (fun X Y pre x W lp o o' h hlp hl ho=>h) ?h0 (fun x a W=>∃ Be v0 v1 v4 v6 v8 v9 v10 v11 v12 v13 v14 v15 v16 v17 v18 v19 v20 v21 v22 v23 v24 v25,a= {tmps:= #[v0,v1,ptr w.heap.size,ptr (w.heap.size+1),v4,ptr (w.heap.size+2),v6,ptr Be,v8,v9,v10,v11,v12,v13,v14,v15,v16,v17,v18,v19,v20,v21,v22,v23,v24,v25],defers:=[] }∧w3.heap.size≤Be∧Held W Be (eu (cv x) (cv ((x+1) % 4))) 213) ?assign ?ap ?body ?done ?stop
  case h0=>
   intro W hW;exact ⟨hB3.upto hW (by simp [qE];omega),hW.size,fun b h=>h.elim (fun h=>h.elim) (fun h=>h.elim)⟩
  case ap=>
   rintro x a' W lp o o' ⟨Be,v0,v1,v4,v6,v8,v9,v10,v11,v12,v13,v14,v15,v16,v17,v18,v19,v20,v21,v22,v23,v24,v25,e2,h1,h2⟩ hlp hl ho
   exact ⟨Be,v0,v1,v4,v6,v8,v9,v10,v11,v12,v13,v14,v15,v16,v17,v18,v19,v20,v21,v22,v23,v24,v25,e2,h1,h2.putObj hl ho _⟩
  case stop=>exact fun _ _ _ _ _ _ _ h _=>h.elim
  case assign=>
   intro lp X Y pre x W K' hi ht hk uy;have hb:=((Below.refl W.heap.size W).alloc (Nat.le_refl _) (.cells (eu (⟨0,0⟩,⟨0,0⟩) (⟨0,0⟩,⟨0,0⟩)).toArray 213));have hb':=below_setCells W.heap.size (Nat.le_refl _) (eu (cv x) (cv ((x+1) % 4))) 0 _ _ hb;have hE0:=Held.new W (eu (⟨0,0⟩,⟨0,0⟩) (⟨0,0⟩,⟨0,0⟩)) 213;have hsz:=hi.sz
   have fin:∀ v0 v1 v4 v6 v8 v9 v10 v11 v12 v13 v14 v15 v16 v17 v18 v19 v20 v21 v22 v23 v24 v25:Value,K' {tmps:= #[v0,v1,ptr w.heap.size,ptr (w.heap.size+1),v4,ptr (w.heap.size+2),v6,ptr W.heap.size,v8,v9,v10,v11,v12,v13,v14,v15,v16,v17,v18,v19,v20,v21,v22,v23,v24,v25],defers:=[] } ((W.alloc (.cells (eu (⟨0,0⟩,⟨0,0⟩) (⟨0,0⟩,⟨0,0⟩)).toArray 213)).setCells W.heap.size 0 (eu (cv x) (cv ((x+1) % 4)))):=fun _ _ _ _ _ _ _ _ _ _ _ _ _ _ _ _ _ _ _ _ _ _=>
    hk _ _ ⟨hb'.size,fun k o hk hl _=>(hb'.block k (Array.getElem?_eq_some_iff.1 hl).1).trans hl⟩
     ⟨hb'.size,fun b h=>hb'.block b (uy b h),fun b h=>hb'.block b (Nat.lt_of_lt_of_le (hK3 b h) hsz)⟩
     (TG.abides A c B d p w w3.heap.size (by omega) _ _ _ _ _ _ _ hi (Turn.of_below hb') (fun b h=> .inl h) (fun b h=> .inl h)) ht
     ⟨W.heap.size,_,_,_,_,_,_,_,_,_,_,_,_,_,_,_,_,_,_,_,_,_,_,rfl,hsz,hE0.whole _ rfl⟩
   have FIN:=hide fin;clear hk fin hb hb' hi ht uy hsz;obtain ⟨v1,hv1⟩:∃ v,cv x=v:=⟨_,rfl⟩;obtain ⟨v2,hv2⟩:∃ v,cv ((x+1) % 4)=v:=⟨_,rfl⟩
   simp only [yX,hv1,hv2] at FIN ⊢
   clear hv1 hv2
   simp
   refine bJ (by kernel_rfl) (by rintro ⟨_,_,h⟩;exact h) ?_
   go_wp2_with (refine aQ 213 (.tmp 7) (.tmp 11) rfl ?_;refine aI (hE0) (eu v1 v2) rfl wB (EK _ _) rfl (.tmp 7) (.tmp 11) rfl rfl rfl ?_)
   exact FIN.out _ _ _ _ _ _ _ _ _ _ _ _ _ _ _ _ _ _ _ _ _ _
  case body=>
   rintro lp X Y pre x a' W hi ht ⟨Be,v0,v1,v4,v6,v8,v9,v10,v11,v12,v13,v14,v15,v16,v17,v18,v19,v20,v21,v22,v23,v24,v25,rfl,XH,hE⟩ hlt uy hWs
   obtain ⟨hx,hx4⟩:=ht;have hso:=UM hok hx4
   unfold wO at hso
   simp only [Bool.and_eq_true] at hso
   obtain ⟨⟨⟨o1,o2⟩,o3⟩,o4⟩:=hso
   have hst:zU p (pre++[x]).length=min (zU p pre.length) (Jy p pre.length):=by rw [List.length_append];rfl
   rw [← hx] at hst;have VO:=fun W=>CW (cv ((x+1) % 4)) (cv x) W o2 o1;have HL2:=fun W=>CW p (cv x) W o3 o1;have HC:=fun W=>KT (Nm.oV (cv ((x+1) % 4)) (cv x)) (Nm.oV p (cv x)) W o4;have HS:=fun W=>Lh (Nm.cross (Nm.oV (cv ((x+1) % 4)) (cv x)) (Nm.oV p (cv x))) W;rw [show Jy p x=Nm.VG (Nm.cross (Nm.oV (cv ((x+1) % 4)) (cv x)) (Nm.oV p (cv x))).n from rfl] at hst;obtain ⟨u1,hu1⟩:∃ u,Nm.oV (cv ((x+1) % 4)) (cv x)=u:=⟨_,rfl⟩;obtain ⟨u2,hu2⟩:∃ u,Nm.oV p (cv x)=u:=⟨_,rfl⟩
   simp only [hu1] at VO HC HS hst
   simp only [hu2] at HL2 HC HS hst
   obtain ⟨cr,hcr⟩:∃ u,Nm.cross u1 u2=u:=⟨_,rfl⟩
   simp only [hcr] at HC HS hst
   obtain ⟨z,hz⟩:∃ u,Nm.VG cr.n=u:=⟨_,rfl⟩
   simp only [hz] at HS hst
   obtain ⟨v1,hv1⟩:∃ v,cv x=v:=⟨_,rfl⟩;obtain ⟨v2,hv2⟩:∃ v,cv ((x+1) % 4)=v:=⟨_,rfl⟩
   simp only [hv1] at VO HL2 hE
   simp only [hv2] at VO hE
   clear hu1 hu2 hcr hz hv1 hv2 o1 o2 o3 o4;have hBi:=hi.b;have hsep:=hi.sep;have Yr:=hi.sz;obtain ⟨m,hm⟩:∃ m,zU p pre.length=m:=⟨_,rfl⟩;rw [← hx] at hm
   have hB2:aS w W [(dF A c B d,87),(aK p,130),([.int .i64 m],3)]:=by rw [← hm,hx];exact hBi
   rw [hm] at hst
   have fin:∀ (a:Act) (W4:World),Below W.heap.size W W4→qg (fun b=>b=w1.heap.size∨(S b∧b<w.heap.size)) w3.heap.size X Y (TG A c B d p w w3.heap.size) (fun _ _ _ _=>False) (pre++[x]) W .normal a (W4.setCell ⟨w.heap.size+2,0,none⟩ (.int .i64 (min m z))):=by
    intro a W4 hb4;have hB4:=(hB2.call (by simp) hb4).set 2 rfl 0 (.int .i64 (min m z));have hne:∀ b,b≠w.heap.size+2→b<W.heap.size→(W4.setCell ⟨w.heap.size+2,0,none⟩ (.int .i64 (min m z))).heap[b]? =W.heap[b]? :=fun b h h'=>(Below.heap_setCell W4 ⟨w.heap.size+2,0,none⟩ _ b h).trans (hb4.block b h')
    have WA:W.heap.size≤(W4.setCell ⟨w.heap.size+2,0,none⟩ (.int .i64 (min m z))).heap.size:=by simpa [World.setCell] using hb4.size
    refine ⟨⟨WA,fun k o hk hl _=>(hne k (by omega) (Array.getElem?_eq_some_iff.1 hl).1).trans hl⟩,⟨WA,fun b h=>hne b (by have:=hsep b h;omega) (uy b h).2,fun b h=>hne b (by rcases h with h | ⟨_,h⟩ <;> omega) (Nat.lt_of_lt_of_le (hK3 b h) Yr)⟩,⟨?_,Nat.le_trans Yr WA,hsep⟩⟩;rw [qE,hst];exact hB4
   have FIN:=hide fin;clear fin hi hBi hst;have hcell:W.drew.cell? ⟨w.heap.size+2,0,none⟩=some (.int .i64 m):=(hB2.get 2 rfl).cell (j:=0) rfl;have hB0:=hB2.drew;have hE0:=hE.drew;have VO:=hide VO;have HL2:=hide HL2;have HC:=hide HC;have HS:=hide HS;apply wpIn_block;refine ji (S:=(fun w':World=>Held w' Be (eu v1 v2) 213∧Held w' (w.heap.size+1) (aK p) 130)) (by kernel_rfl) (by rintro ⟨_,_,h⟩;exact h) (by kernel_rfl) ?iM (fun hHeld=>?_)
   case iM=>exact ⟨hE0,hB0.get 1 rfl⟩
   refine tk 1 ?_;refine wpAnyH_take (i:=2) (oi:=_) (v:=_) (ga rfl) (by kernel_rfl) (by kernel_rfl) (by kernel_rfl) (fun _ _ _ h=>h) (yieldsIf_load_mid (by rfl) _ _ (by rfl) _ _ (by rfl) _ _ (fun _ h=>TP h.1) Tryz.underlying130 rfl (by kernel_rfl)) (by assumption) ?_
   try simp only [Act.put,la,lz,ls]
   refine tk 3 ?_;refine wpAnyH_take (i:=4) (oi:=_) (v:=_) (ga rfl) (by kernel_rfl) (by kernel_rfl) (by kernel_rfl) (fun _ _ _ h=>h) (yieldsIf_load_mid (by rfl) _ _ (by rfl) _ _ (by rfl) _ _ (fun _ h=>JH h.1) Tryz.underlying130 rfl (by kernel_rfl)) (by assumption) ?_
   try simp only [Act.put,la,lz,ls]
   refine wpAnyH_take (i:=6) (oi:=_) (v:=_) (ga rfl) (by kernel_rfl) (by kernel_rfl) (by kernel_rfl) (fun _ _ _ h=>h) (yieldsIf_load_mid (by rfl) _ _ (by rfl) _ _ (by rfl) _ _ (fun _ h=>h.2.range) Tryz.underlying130 rfl (by kernel_rfl)) (by assumption) ?_
   try simp only [Act.put,la,lz,ls]
   refine tk 7 ?_;refine wpAnyH_take (i:=8) (oi:=_) (v:=_) (ga rfl) (by kernel_rfl) (by kernel_rfl) (by kernel_rfl) (fun _ _ _ h=>h) (yieldsIf_load_mid (by rfl) _ _ (by rfl) _ _ (by rfl) _ _ (fun _ h=>JH h.1) Tryz.underlying130 rfl (by kernel_rfl)) (by assumption) ?_
   try simp only [Act.put,la,lz,ls]
   refine wpAnyH_ready (rs:=[0,5]) (by kernel_rfl) (by simp) ?_;refine AllReadyH.cons (o:=_) (ga rfl) (fun K hK=>?_) (AllReadyH.cons (o:=_) (ga rfl) (fun K hK=>?_) AllReadyH.nil)
   · go_simp
     refine hK.out _ _ ?Rj (fun hHeld=>?_)
     case Rj=>(assumption)
     clear hK K
     try simp only [Act.put,la,lz,ls]
     refine tr 5 fun K hK=>?_;go_simp
     (go_at_call 129;refine (VO.out _).mono ?_;rintro e Tz ⟨rfl,hb1⟩)
     have hB1:=hB0.call (by simp) hb1;have hE1:=hE0.below hb1;have hc1:=(hB1.get 2 rfl).cell (j:=0) rfl;have abf:=(hB1.get 2 rfl).frozen 0;have uN:=(Below.refl _ _).trans (hb1);refine hK.out _ _ ?RH (fun hHeld=>?_)
     case RH=>(exact ⟨hE1,hB1.get 1 rfl⟩)
     clear hK K
     try simp only [Act.put,la,lz,ls]
     refine tr 9 fun K hK=>?_;go_simp
     (go_at_call 129;refine (HL2.out _).mono ?_;rintro e w12 ⟨rfl,hb2⟩)
     have hB2:=hB1.call (by simp) hb2;have hE2:=hE1.below hb2;have hc2:=(hB2.get 2 rfl).cell (j:=0) rfl;have Yx:=(hB2.get 2 rfl).frozen 0;have hbw2:=uN.trans (hb2.mono uN.size);refine hK.out _ _ ?Sl (fun hHeld=>?_)
     case Sl=>(exact ⟨hE2,hB2.get 1 rfl⟩)
     clear hK K
     try simp only [Act.put,la,lz,ls]
     refine tr 10 fun K hK=>?_;go_simp
     (go_at_call 130;refine (HC.out _).mono ?_;rintro e VI ⟨rfl,hb3⟩)
     have hB3:=hB2.call (by simp) hb3;have Du:=hE2.below hb3;have hc3:=(hB3.get 2 rfl).cell (j:=0) rfl;have Wj:=(hB3.get 2 rfl).frozen 0;have hbw3:=hbw2.trans (hb3.mono hbw2.size);refine hK.out _ _ ?wJ (fun hHeld=>?_)
     case wJ=>(exact ⟨Du,hB3.get 1 rfl⟩)
     clear hK K
     try simp only [Act.put,la,lz,ls]
     refine tr 11 fun K hK=>?_;go_simp
     (go_at_call 131;refine (HS.out _).mono ?_;rintro e TA ⟨rfl,hb4⟩)
     have hB4:=hB3.call (by simp) hb4;have Hq:=Du.below hb4;have hc4:=(hB4.get 2 rfl).cell (j:=0) rfl;have Uk:=(hB4.get 2 rfl).frozen 0;have Dw:=hbw3.trans (hb4.mono hbw3.size);refine hK.out _ _ ?MX (fun hHeld=>?_)
     case MX=>(exact ⟨Hq,hB4.get 1 rfl⟩)
     clear hK K
     try simp only [Act.put,la,lz,ls]
     refine tk 12 ?_;refine tr 13 fun K hK=>?_;go_simp;refine hK.out _ _ ?Nb (fun hHeld=>?_)
     case Nb=>(exact ⟨Hq.other (g':=w.heap.size+2) (by omega) 0 _,(hB4.set 2 rfl 0 _).get 1 rfl⟩)
     clear hK K
     try simp only [Act.put,la,lz,ls]
     refine wpAnyH_done (by kernel_rfl) ?_ _;exact FIN.out {tmps:= #[],defers:=[] } _ (gu Dw)
   · go_simp
     (go_at_call 129;refine (VO.out _).mono ?_;rintro e Tz ⟨rfl,hb1⟩)
     have hB1:=hB0.call (by simp) hb1;have hE1:=hE0.below hb1;have hc1:=(hB1.get 2 rfl).cell (j:=0) rfl;have abf:=(hB1.get 2 rfl).frozen 0;have uN:=(Below.refl _ _).trans (hb1);refine hK.out _ _ ?zX (fun hHeld=>?_)
     case zX=>(exact ⟨hE1,hB1.get 1 rfl⟩)
     clear hK K
     try simp only [Act.put,la,lz,ls]
     refine wpAnyH_ready (rs:=[0,9]) (by kernel_rfl) (by simp) ?_;refine AllReadyH.cons (o:=_) (ga rfl) (fun K hK=>?_) (AllReadyH.cons (o:=_) (ga rfl) (fun K hK=>?_) AllReadyH.nil)
     · go_simp
       refine hK.out _ _ ?Rn (fun hHeld=>?_)
       case Rn=>(assumption)
       clear hK K
       try simp only [Act.put,la,lz,ls]
       refine tr 9 fun K hK=>?_;go_simp
       (go_at_call 129;refine (HL2.out _).mono ?_;rintro e w12 ⟨rfl,hb2⟩)
       have hB2:=hB1.call (by simp) hb2;have hE2:=hE1.below hb2;have hc2:=(hB2.get 2 rfl).cell (j:=0) rfl;have Yx:=(hB2.get 2 rfl).frozen 0;have hbw2:=uN.trans (hb2.mono uN.size);refine hK.out _ _ ?Sm (fun hHeld=>?_)
       case Sm=>(exact ⟨hE2,hB2.get 1 rfl⟩)
       clear hK K
       try simp only [Act.put,la,lz,ls]
       refine tr 10 fun K hK=>?_;go_simp
       (go_at_call 130;refine (HC.out _).mono ?_;rintro e VI ⟨rfl,hb3⟩)
       have hB3:=hB2.call (by simp) hb3;have Du:=hE2.below hb3;have hc3:=(hB3.get 2 rfl).cell (j:=0) rfl;have Wj:=(hB3.get 2 rfl).frozen 0;have hbw3:=hbw2.trans (hb3.mono hbw2.size);refine hK.out _ _ ?MV (fun hHeld=>?_)
       case MV=>(exact ⟨Du,hB3.get 1 rfl⟩)
       clear hK K
       try simp only [Act.put,la,lz,ls]
       refine tr 11 fun K hK=>?_;go_simp
       (go_at_call 131;refine (HS.out _).mono ?_;rintro e TA ⟨rfl,hb4⟩)
       have hB4:=hB3.call (by simp) hb4;have Hq:=Du.below hb4;have hc4:=(hB4.get 2 rfl).cell (j:=0) rfl;have Uk:=(hB4.get 2 rfl).frozen 0;have Dw:=hbw3.trans (hb4.mono hbw3.size);refine hK.out _ _ ?MZ (fun hHeld=>?_)
       case MZ=>(exact ⟨Hq,hB4.get 1 rfl⟩)
       clear hK K
       try simp only [Act.put,la,lz,ls]
       refine tk 12 ?_;refine tr 13 fun K hK=>?_;go_simp;refine hK.out _ _ ?Nc (fun hHeld=>?_)
       case Nc=>(exact ⟨Hq.other (g':=w.heap.size+2) (by omega) 0 _,(hB4.set 2 rfl 0 _).get 1 rfl⟩)
       clear hK K
       try simp only [Act.put,la,lz,ls]
       refine wpAnyH_done (by kernel_rfl) ?_ _;exact FIN.out {tmps:= #[],defers:=[] } _ (gu Dw)
     · go_simp
       (go_at_call 129;refine (HL2.out _).mono ?_;rintro e w12 ⟨rfl,hb2⟩)
       have hB2:=hB1.call (by simp) hb2;have hE2:=hE1.below hb2;have hc2:=(hB2.get 2 rfl).cell (j:=0) rfl;have Yx:=(hB2.get 2 rfl).frozen 0;have hbw2:=uN.trans (hb2.mono uN.size);refine hK.out _ _ ?Sr (fun hHeld=>?_)
       case Sr=>(exact ⟨hE2,hB2.get 1 rfl⟩)
       clear hK K
       try simp only [Act.put,la,lz,ls]
       refine wpAnyH_ready (rs:=[0,10]) (by kernel_rfl) (by simp) ?_;refine AllReadyH.cons (o:=_) (ga rfl) (fun K hK=>?_) (AllReadyH.cons (o:=_) (ga rfl) (fun K hK=>?_) AllReadyH.nil)
       · go_simp
         refine hK.out _ _ ?Ro (fun hHeld=>?_)
         case Ro=>(assumption)
         clear hK K
         try simp only [Act.put,la,lz,ls]
         refine tr 10 fun K hK=>?_;go_simp
         (go_at_call 130;refine (HC.out _).mono ?_;rintro e VI ⟨rfl,hb3⟩)
         have hB3:=hB2.call (by simp) hb3;have Du:=hE2.below hb3;have hc3:=(hB3.get 2 rfl).cell (j:=0) rfl;have Wj:=(hB3.get 2 rfl).frozen 0;have hbw3:=hbw2.trans (hb3.mono hbw2.size);refine hK.out _ _ ?MW (fun hHeld=>?_)
         case MW=>(exact ⟨Du,hB3.get 1 rfl⟩)
         clear hK K
         try simp only [Act.put,la,lz,ls]
         refine tr 11 fun K hK=>?_;go_simp
         (go_at_call 131;refine (HS.out _).mono ?_;rintro e TA ⟨rfl,hb4⟩)
         have hB4:=hB3.call (by simp) hb4;have Hq:=Du.below hb4;have hc4:=(hB4.get 2 rfl).cell (j:=0) rfl;have Uk:=(hB4.get 2 rfl).frozen 0;have Dw:=hbw3.trans (hb4.mono hbw3.size);refine hK.out _ _ ?Na (fun hHeld=>?_)
         case Na=>(exact ⟨Hq,hB4.get 1 rfl⟩)
         clear hK K
         try simp only [Act.put,la,lz,ls]
         refine tk 12 ?_;refine tr 13 fun K hK=>?_;go_simp;refine hK.out _ _ ?Nh (fun hHeld=>?_)
         case Nh=>(exact ⟨Hq.other (g':=w.heap.size+2) (by omega) 0 _,(hB4.set 2 rfl 0 _).get 1 rfl⟩)
         clear hK K
         try simp only [Act.put,la,lz,ls]
         refine wpAnyH_done (by kernel_rfl) ?_ _;exact FIN.out {tmps:= #[],defers:=[] } _ (gu Dw)
       · go_simp
         (go_at_call 130;refine (HC.out _).mono ?_;rintro e VI ⟨rfl,hb3⟩)
         have hB3:=hB2.call (by simp) hb3;have Du:=hE2.below hb3;have hc3:=(hB3.get 2 rfl).cell (j:=0) rfl;have Wj:=(hB3.get 2 rfl).frozen 0;have hbw3:=hbw2.trans (hb3.mono hbw2.size);refine hK.out _ _ ?Jp (fun hHeld=>?_)
         case Jp=>(exact ⟨Du,hB3.get 1 rfl⟩)
         clear hK K
         try simp only [Act.put,la,lz,ls]
         refine wpAnyH_ready (rs:=[0,11]) (by kernel_rfl) (by simp) ?_;refine AllReadyH.cons (o:=_) (ga rfl) (fun K hK=>?_) (AllReadyH.cons (o:=_) (ga rfl) (fun K hK=>?_) AllReadyH.nil)
         · go_simp
           refine hK.out _ _ ?MQ (fun hHeld=>?_)
           case MQ=>(assumption)
           clear hK K
           try simp only [Act.put,la,lz,ls]
           refine tr 11 fun K hK=>?_;go_simp
           (go_at_call 131;refine (HS.out _).mono ?_;rintro e TA ⟨rfl,hb4⟩)
           have hB4:=hB3.call (by simp) hb4;have Hq:=Du.below hb4;have hc4:=(hB4.get 2 rfl).cell (j:=0) rfl;have Uk:=(hB4.get 2 rfl).frozen 0;have Dw:=hbw3.trans (hb4.mono hbw3.size);refine hK.out _ _ ?Jq (fun hHeld=>?_)
           case Jq=>(exact ⟨Hq,hB4.get 1 rfl⟩)
           clear hK K
           try simp only [Act.put,la,lz,ls]
           refine tk 12 ?_;refine tr 13 fun K hK=>?_;go_simp;refine hK.out _ _ ?Js (fun hHeld=>?_)
           case Js=>(exact ⟨Hq.other (g':=w.heap.size+2) (by omega) 0 _,(hB4.set 2 rfl 0 _).get 1 rfl⟩)
           clear hK K
           try simp only [Act.put,la,lz,ls]
           refine wpAnyH_done (by kernel_rfl) ?_ _;exact FIN.out {tmps:= #[],defers:=[] } _ (gu Dw)
         · go_simp
           (go_at_call 131;refine (HS.out _).mono ?_;rintro e TA ⟨rfl,hb4⟩)
           have hB4:=hB3.call (by simp) hb4;have Hq:=Du.below hb4;have hc4:=(hB4.get 2 rfl).cell (j:=0) rfl;have Uk:=(hB4.get 2 rfl).frozen 0;have Dw:=hbw3.trans (hb4.mono hbw3.size);refine hK.out _ _ ?Jr (fun hHeld=>?_)
           case Jr=>(exact ⟨Hq,hB4.get 1 rfl⟩)
           clear hK K
           try simp only [Act.put,la,lz,ls]
           refine tr 0 fun K hK=>?_;go_simp;refine hK.out _ _ ?MR (fun hHeld=>?_)
           case MR=>(assumption)
           clear hK K
           try simp only [Act.put,la,lz,ls]
           refine tk 12 ?_;refine tr 13 fun K hK=>?_;go_simp;refine hK.out _ _ ?Jt (fun hHeld=>?_)
           case Jt=>(exact ⟨Hq.other (g':=w.heap.size+2) (by omega) 0 _,(hB4.set 2 rfl 0 _).get 1 rfl⟩)
           clear hK K
           try simp only [Act.put,la,lz,ls]
           refine wpAnyH_done (by kernel_rfl) ?_ _;exact FIN.out {tmps:= #[],defers:=[] } _ (gu Dw)
  case done=>
   intro D X Y xs W hD hS hi hdef;have Vp:=hi.b;rw [hS,show qE A c B d p (List.range 4).length=[(dF A c B d,87),(aK p,130),([.int .i64 (zU p 4)],3)] from rfl] at Vp;obtain ⟨m,hm⟩:∃ m,zU p 4=m:=⟨_,rfl⟩;rw [hm] at Vp;have HM:=hide hm;have hc9:=(Vp.get 2 rfl).cell (j:=0) rfl
   have hD':w.heap.size≤D:=by omega
   have wu:=hide hdef;clear hm hi hS hdef;refine Uc _ _ ?_
   dsimp only
   refine nK ?_;go_wp2
   show Q' .ret _ _
   rw [← HQ.out,HM.out];exact kC rfl wu.out (results_tmp (t:=4) rfl _ _ _) ⟨rfl,fZ Vp.bw hD' _⟩
end Go.Proofs.YtcjglfbpjkdgiaaGreatDoor
